import PyProof.Rows.All
import Wide.All
import OpenK.AllK
import Wide.FinOn
import HandS.ForMost
import HandS.Walk
import HandS.Conv
import HandS.IsInst
import HandS.TupAny
import HandS.TupMul
import HandS.Steps
import HandS.Style
import HandS.More
import KE.GoesMore
import HandS.NoneIn
import HandS.Defaults
import KE.KExcSuper
import HandS.Exc
import HandS.ExcSuper
import HandS.WordsExc
import HandS.DictComp
import HandS.SetFor
import HandS.Strs
import HandS.Sort
import HandS.EndTab
import HandS.RaiseMore
import PyProof.ReprRoads
import HandS.New
import HandS.TryMany
import HandS.Lambda
import HandS.ExcField
import PySem.Challenge.RW_cancelsback_k43_whole_elders_take_nothin
set_option Elab.async false
set_option linter.all false
set_option maxRecDepth 100000
set_option maxHeartbeats 1000000
/-! D1: plain data over the abstract heap; slots; weakest preconditions over data. -/
namespace Dl
open PySem L2

/-- plain data -/
inductive DD where
  | non | bl (b : Bool) | int (i : Int) | str (x : Str)
  | lst (ds : List DD) | tup (ds : List DD)
  | dT (kvs : List (List Key × V)) | dK (kvs : List (Key × V)) | any (v : V)

mutual
inductive Rp (G : Hp) : V → DD → Prop
  | non : Rp G .non .non
  | bl (b : Bool) : Rp G (.bl b) (.bl b)
  | int (i : Int) : Rp G (.int i) (.int i)
  | str (x : Str) : Rp G (.str x) (.str x)
  | lst {a : Addr} {xs : List V} {ds : List DD} : G a = some (.lst xs) → RpAll G xs ds → Rp G (.ref a) (.lst ds)
  | tup {a : Addr} {xs : List V} {ds : List DD} : G a = some (.tup xs) → RpAll G xs ds → Rp G (.ref a) (.tup ds)
  | dT {a : Addr} {kvs : List (List Key × V)} : G a = some (.dT kvs) → Rp G (.ref a) (.dT kvs)
  | dK {a : Addr} {kvs : List (Key × V)} : G a = some (.dK kvs) → Rp G (.ref a) (.dK kvs)
  | any (v : V) : Rp G v (.any v)
inductive RpAll (G : Hp) : List V → List DD → Prop
  | nil : RpAll G [] []
  | cons {v : V} {vs : List V} {d : DD} {ds : List DD} : Rp G v d → RpAll G vs ds → RpAll G (v :: vs) (d :: ds)
end

mutual
theorem Rp.mono {G G' : Hp} (e : Same G G') : ∀ {d : DD} {v : V}, Rp G v d → Rp G' v d
  | .non, _, h => by cases h; exact .non
  | .bl b, _, h => by cases h; exact .bl b
  | .int b, _, h => by cases h; exact .int b
  | .str b, _, h => by cases h; exact .str b
  | .lst ds, _, h => by
    cases h with
    | lst h1 h2 => exact .lst (e _ _ h1) (RpAll.mono e h2)
  | .tup ds, _, h => by
    cases h with
    | tup h1 h2 => exact .tup (e _ _ h1) (RpAll.mono e h2)
  | .dT _, _, h => by
    cases h with
    | dT h1 => exact .dT (e _ _ h1)
  | .dK _, _, h => by
    cases h with
    | dK h1 => exact .dK (e _ _ h1)
  | .any v, _, h => by cases h; exact .any v
theorem RpAll.mono {G G' : Hp} (e : Same G G') : ∀ {ds : List DD} {vs : List V}, RpAll G vs ds → RpAll G' vs ds
  | [], _, h => by cases h; exact .nil
  | d :: ds, _, h => by
    cases h with
    | cons h1 h2 => exact .cons (Rp.mono e h1) (RpAll.mono e h2)
end

theorem RpAll.length {G : Hp} : ∀ {vs : List V} {ds : List DD}, RpAll G vs ds → vs.length = ds.length
  | _, _, .nil => rfl
  | _, _, .cons _ h => by simp [RpAll.length h]
theorem RpAll.append {G : Hp} : ∀ {vs ws : List V} {ds es : List DD}, RpAll G vs ds → RpAll G ws es → RpAll G (vs ++ ws) (ds ++ es)
  | _, _, _, _, .nil, k => k
  | _, _, _, _, .cons h t, k => .cons h (RpAll.append t k)
theorem RpAll.snoc {G : Hp} {vs : List V} {v : V} {ds : List DD} {d : DD} (h : RpAll G vs ds) (k : Rp G v d) : RpAll G (vs ++ [v]) (ds ++ [d]) := h.append (.cons k .nil)
theorem RpAll.get {G : Hp} : ∀ {vs : List V} {ds : List DD} {i : Nat} {d : DD}, RpAll G vs ds → ds[i]? = some d → ∃ v, vs[i]? = some v ∧ Rp G v d
  | _, _, _, _, .nil, e => by simp at e
  | _, _, 0, _, .cons h _, e => by simp at e; subst e; exact ⟨_, rfl, h⟩
  | _, _, i + 1, _, .cons _ t, e => by
    obtain ⟨v, h1, h2⟩ := RpAll.get (i := i) t (by simpa using e)
    exact ⟨v, by simpa using h1, h2⟩
theorem RpAll.getV {G : Hp} : ∀ {vs : List V} {ds : List DD} {i : Nat} {v : V}, RpAll G vs ds → vs[i]? = some v → ∃ d, ds[i]? = some d ∧ Rp G v d
  | _, _, _, _, .nil, e => by simp at e
  | _, _, 0, _, .cons h _, e => by simp at e; subst e; exact ⟨_, rfl, h⟩
  | _, _, i + 1, _, .cons _ t, e => by
    obtain ⟨v, h1, h2⟩ := RpAll.getV (i := i) t (by simpa using e)
    exact ⟨v, by simpa using h1, h2⟩
theorem RpAll.drop {G : Hp} : ∀ {vs : List V} {ds : List DD} (n : Nat), RpAll G vs ds → RpAll G (vs.drop n) (ds.drop n)
  | _, _, 0, h => h
  | _, _, _ + 1, .nil => .nil
  | _, _, n + 1, .cons _ t => RpAll.drop n t
theorem RpAll.take {G : Hp} : ∀ {vs : List V} {ds : List DD} (n : Nat), RpAll G vs ds → RpAll G (vs.take n) (ds.take n)
  | _, _, 0, _ => .nil
  | _, _, _ + 1, .nil => .nil
  | _, _, n + 1, .cons h t => .cons h (RpAll.take n t)
theorem RpAll.eraseIdx {G : Hp} : ∀ {vs : List V} {ds : List DD} (n : Nat), RpAll G vs ds → RpAll G (vs.eraseIdx n) (ds.eraseIdx n)
  | _, _, _, .nil => .nil
  | _, _, 0, .cons _ t => t
  | _, _, n + 1, .cons h t => .cons h (RpAll.eraseIdx n t)
theorem RpAll.dropLast {G : Hp} : ∀ {vs : List V} {ds : List DD}, RpAll G vs ds → RpAll G vs.dropLast ds.dropLast
  | _, _, .nil => .nil
  | _, _, .cons _ .nil => .nil
  | _, _, .cons h (.cons k t) => .cons h (RpAll.dropLast (.cons k t))
theorem RpAll.reverse {G : Hp} : ∀ {vs : List V} {ds : List DD}, RpAll G vs ds → RpAll G vs.reverse ds.reverse
  | _, _, .nil => .nil
  | _, _, .cons h t => by
    simp only [List.reverse_cons]
    exact (RpAll.reverse t).snoc h
theorem RpAll.ints {G : Hp} : ∀ {vs : List V} {ns : List Int}, RpAll G vs (ns.map .int) → vs = ns.map V.int
  | _, [], h => by cases h; rfl
  | _, n :: ns, h => by
    cases h with
    | cons h1 h2 => cases h1; rw [RpAll.ints h2]; rfl
theorem RpAll.of_ints {G : Hp} : ∀ (ns : List Int), RpAll G (ns.map V.int) (ns.map .int)
  | [] => .nil
  | n :: ns => .cons (.int n) (RpAll.of_ints ns)
theorem RpAll.bls {G : Hp} : ∀ {vs : List V} {ns : List Bool}, RpAll G vs (ns.map .bl) → vs = ns.map V.bl
  | _, [], h => by cases h; rfl
  | _, n :: ns, h => by
    cases h with
    | cons h1 h2 => cases h1; rw [RpAll.bls h2]; rfl

/-! ### how a heap goes on -/
structure Fr (M : Addr → Prop) (J : Hp → Prop) (G H G2 H2 : Hp) : Prop where
  gg : Same G G2
  gh : Same G2 H2
  keep : ∀ a o, ¬ M a → H a = some o → H2 a = some o
  fr : ∀ a, H2 a = none → H a = none
  dom : ∀ a, H a ≠ none → G a = none → G2 a = none
  j : J H2

/-- the setting of a body: what calls may change (M, under J), the entry's data G0 and heap H0 -/
structure Wd where
  M : Addr → Prop
  J : Hp → Prop
  G0 : Hp
  H0 : Hp
  jl : ∀ H H', J H → (∀ a, M a → H' a = H a) → J H'
  jm : ∀ H a, J H → M a → H a ≠ none
  mg : ∀ a, M a → G0 a = none
  g0 : Same G0 H0
  j0 : J H0

section
variable {M : Addr → Prop} {J : Hp → Prop} {G H G2 H2 G3 H3 : Hp}
theorem Fr.trans (a : Fr M J G H G2 H2) (b : Fr M J G2 H2 G3 H3) : Fr M J G H G3 H3 where
  gg := a.gg.trans b.gg
  gh := b.gh
  keep := fun x o m e => b.keep x o m (a.keep x o m e)
  fr := fun x e => a.fr x (b.fr x e)
  dom := fun x h g => b.dom x (fun z => h (a.fr x z)) (a.dom x h g)
  j := b.j
theorem Fr.refl (g : Same G H) (j : J H) : Fr M J G H G H := ⟨Same.refl G, g, fun _ _ _ e => e, fun _ e => e, fun _ _ e => e, j⟩
end

abbrev Wd.Go (W : Wd) (G H G2 H2 : Hp) : Prop := Fr W.M W.J G H G2 H2
abbrev Wd.Cur (W : Wd) (G H : Hp) : Prop := Fr W.M W.J W.G0 W.H0 G H

section
variable {W : Wd} {G H G2 H2 : Hp} {p : Addr} {o : HO}
theorem Wd.nm (c : W.Cur G H) (h : H p = none) : ¬ W.M p := fun m => W.jm H p c.j m h
/-- a new object, data from now on -/
theorem Wd.new (c : W.Cur G H) (h : H p = none) : W.Go G H (upd G p o) (upd H p o) where
  gg := fun a u e => by
    have : a ≠ p := fun z => by subst z; rw [c.gh a u e] at h; cases h
    rw [upd_ne this]; exact e
  gh := fun a u e => by
    by_cases z : a = p
    · subst z; rw [upd_same] at e ⊢; exact e
    · rw [upd_ne z] at e ⊢; exact c.gh a u e
  keep := fun a u _ e => by rw [upd_ne (ne_of_none e h)]; exact e
  fr := fun a e => by
    by_cases z : a = p
    · subst z; exact h
    · rw [upd_ne z] at e; exact e
  dom := fun a e g => by
    have : a ≠ p := fun z => by subst z; exact e h
    rw [upd_ne this]; exact g
  j := W.jl H _ c.j fun a m => upd_ne fun z => by subst z; exact W.nm c h m
/-- a new object that is no data (yet) -/
theorem Wd.newH (c : W.Cur G H) (h : H p = none) : W.Go G H G (upd H p o) where
  gg := Same.refl G
  gh := fun a u e => by
    have : a ≠ p := fun z => by subst z; rw [c.gh a u e] at h; cases h
    rw [upd_ne this]; exact c.gh a u e
  keep := fun a u _ e => by rw [upd_ne (ne_of_none e h)]; exact e
  fr := fun a e => by
    by_cases z : a = p
    · subst z; exact h
    · rw [upd_ne z] at e; exact e
  dom := fun _ _ g => g
  j := W.jl H _ c.j fun a m => upd_ne fun z => by subst z; exact W.nm c h m
/-- an object that is no data and that the start does not know is changed -/
theorem Fr.mut {W : Wd} {G H G2 H2 : Hp} {p : Addr} {o : HO} (f : W.Go G H G2 H2) (hp : H p = none) (gp : G2 p = none) (mp : ¬ W.M p) : W.Go G H G2 (upd H2 p o) where
  gg := f.gg
  gh := fun a u e => by
    have : a ≠ p := fun z => by subst z; rw [gp] at e; cases e
    rw [upd_ne this]; exact f.gh a u e
  keep := fun a u m e => by rw [upd_ne (ne_of_none e hp)]; exact f.keep a u m e
  fr := fun a e => by
    by_cases z : a = p
    · subst z; exact hp
    · rw [upd_ne z] at e; exact f.fr a e
  dom := f.dom
  j := W.jl H2 _ f.j fun a m => upd_ne fun z => by subst z; exact mp m
/-- what was made becomes data -/
theorem Fr.settle {W : Wd} {G H G2 H2 : Hp} {p : Addr} {o : HO} (f : W.Go G H G2 H2) (hp : H p = none) (gp : G2 p = none) (h2 : H2 p = some o) : W.Go G H (upd G2 p o) H2 where
  gg := fun a u e => by
    have : a ≠ p := fun z => by subst z; rw [f.gg a u e] at gp; cases gp
    rw [upd_ne this]; exact f.gg a u e
  gh := fun a u e => by
    by_cases z : a = p
    · subst z; rw [upd_same] at e; rw [h2]; exact e
    · rw [upd_ne z] at e; exact f.gh a u e
  keep := f.keep
  fr := f.fr
  dom := fun a e g => by
    have : a ≠ p := fun z => by subst z; exact e hp
    rw [upd_ne this]; exact f.dom a e g
  j := f.j
end

/-! ### slots -/
inductive Md | own | lent | view
  deriving DecidableEq
inductive Slot where
  | no | dat (d : DD) | seq (m : Md) (ds : List DD)
def lend : Slot → Slot
  | .seq .own ds => .seq .view ds
  | s => s
def VOk (W : Wd) (G H : Hp) (x : V) : Slot → Prop
  | .no => True
  | .dat d => Rp G x d
  | .seq m ds => ∃ l xs, x = .ref l ∧ H l = some (.lst xs) ∧ G l = none ∧ ¬ W.M l ∧ (m = .own → W.H0 l = none) ∧ (m = .lent → W.H0 l = some (.lst xs)) ∧ RpAll G xs ds
theorem vd {W : Wd} {G H : Hp} {x : V} {d : DD} (h : Rp G x d) : VOk W G H x (.dat d) := h
theorem VOk.go {W : Wd} {G H G2 H2 : Hp} {x : V} : ∀ {s : Slot}, VOk W G H x s → W.Go G H G2 H2 → VOk W G2 H2 x s
  | .no, _, _ => trivial
  | .dat d, h, f => Rp.mono f.gg h
  | .seq m ds, ⟨l, xs, e, h1, h2, h3, h4, h5, h6⟩, f => ⟨l, xs, e, f.keep l _ h3 h1, f.dom l (by rw [h1]; exact fun z => nomatch z) h2, h3, h4, h5, h6.mono f.gg⟩
theorem VOk.lend {W : Wd} {G H : Hp} {x : V} : ∀ {s : Slot}, VOk W G H x s → VOk W G H x (lend s)
  | .no, h => h
  | .dat _, h => h
  | .seq .own ds, ⟨l, xs, e, h1, h2, h3, h4, h5, h6⟩ => ⟨l, xs, e, h1, h2, h3, (fun z => by cases z), (fun z => by cases z), h6⟩
  | .seq .lent ds, h => h
  | .seq .view ds, h => h

structure St (W : Wd) (G H : Hp) (σ : L2.St) (ρ : List Slot) : Prop where
  cur : W.Cur G H
  len : σ.length = ρ.length
  sl : ∀ (i : Nat) (s : Slot), ρ[i]? = some s → s ≠ .no → ∃ x, σ[i]? = some (some x) ∧ VOk W G H x s
  ap : ∀ (i j : Nat) (m : Md) (ds es : List DD) (l : Addr), i ≠ j → ρ[i]? = some (.seq .own ds) → ρ[j]? = some (.seq m es) → σ[i]? = some (some (.ref l)) → σ[j]? = some (some (.ref l)) → False
theorem St.go {W : Wd} {G H G2 H2 : Hp} {σ : L2.St} {ρ : List Slot} (S : St W G H σ ρ) (f : W.Go G H G2 H2) : St W G2 H2 σ ρ :=
  ⟨S.cur.trans f, S.len, fun i s e n => let ⟨x, h1, h2⟩ := S.sl i s e n; ⟨x, h1, h2.go f⟩, S.ap⟩
theorem St.set {W : Wd} {G H : Hp} {σ : L2.St} {ρ : List Slot} {i : Nat} {x : V} {d : DD} (S : St W G H σ ρ) (h : Rp G x d) : St W G H (σ.set i (some x)) (ρ.set i (.dat d)) := by
  refine ⟨S.cur, by simp [S.len], fun j s e n => ?_, fun a b m ds es l hab ha hb sa sb => ?_⟩
  · by_cases hj : i = j
    · subst hj
      have hl : i < ρ.length := by
        have := (List.getElem?_eq_some_iff.mp e).1
        simpa using this
      rw [List.getElem?_set_self hl] at e
      cases e
      exact ⟨x, by rw [List.getElem?_set_self (by rw [S.len]; exact hl)], h⟩
    · rw [List.getElem?_set_ne hj] at e
      obtain ⟨y, h1, h2⟩ := S.sl j s e n
      exact ⟨y, by rw [List.getElem?_set_ne hj]; exact h1, h2⟩
  · have na : i ≠ a := fun z => by
      subst z
      have hl : i < ρ.length := by
        have := (List.getElem?_eq_some_iff.mp ha).1
        simpa using this
      rw [List.getElem?_set_self hl] at ha; cases ha
    have nb : i ≠ b := fun z => by
      subst z
      have hl : i < ρ.length := by
        have := (List.getElem?_eq_some_iff.mp hb).1
        simpa using this
      rw [List.getElem?_set_self hl] at hb; cases hb
    rw [List.getElem?_set_ne na] at ha sa
    rw [List.getElem?_set_ne nb] at hb sb
    exact S.ap a b m ds es l hab ha hb sa sb

/-! ### the judgements -/
/-- an expression -/
def EvP (W : Wd) (te : TE) (ρ : List Slot) (P : Slot → Prop) : Prop := ∀ σ G H, St W G H σ ρ → ∀ Q : VK,
  (∀ x G2 H2 s, W.Go G H G2 H2 → VOk W G2 H2 x s → P s → Q x H2) → te σ H Q
/-- an expression that makes a new list -/
def EvF (W : Wd) (te : TE) (ρ : List Slot) (P : List DD → Prop) : Prop := ∀ σ G H, St W G H σ ρ → ∀ Q : VK,
  (∀ p xs G2 H2 ds, W.Go G H G2 H2 → H p = none → G2 p = none → H2 p = some (.lst xs) → RpAll G2 xs ds → P ds → Q (.ref p) H2) → te σ H Q
def EvT (W : Wd) (tt : TT) (ρ : List Slot) (P : Bool → Prop) : Prop := ∀ σ G H, St W G H σ ρ → ∀ Q : Bool → Hp → Prop,
  (∀ b G2 H2, W.Go G H G2 H2 → P b → Q b H2) → tt σ H Q
def EvA (W : Wd) (ta : TA) (ρ : List Slot) (P : List Slot → Prop) : Prop := ∀ σ G H, St W G H σ ρ → ∀ Q : List V → Hp → Prop,
  (∀ xs G2 H2 ss, W.Go G H G2 H2 → Paired (VOk W G2 H2) xs ss → P ss → Q xs H2) → ta σ H Q
/-- operations on values -/
def OpP (W : Wd) (r : R2) (s t : Slot) (P : Slot → Prop) : Prop := ∀ G H x y, W.Cur G H → VOk W G H x s → VOk W G H y t → ∀ Q : VK,
  (∀ z G2 H2 u, W.Go G H G2 H2 → VOk W G2 H2 z u → P u → Q z H2) → r x y H Q
def OpF (W : Wd) (r : R2) (s t : Slot) (P : List DD → Prop) : Prop := ∀ G H x y, W.Cur G H → VOk W G H x s → VOk W G H y t → ∀ Q : VK,
  (∀ p xs G2 H2 ds, W.Go G H G2 H2 → H p = none → G2 p = none → H2 p = some (.lst xs) → RpAll G2 xs ds → P ds → Q (.ref p) H2) → r x y H Q
def UnP (W : Wd) (r : V → Hp → VK → Prop) (s : Slot) (P : Slot → Prop) : Prop := ∀ G H x, W.Cur G H → VOk W G H x s → ∀ Q : VK,
  (∀ z G2 H2 u, W.Go G H G2 H2 → VOk W G2 H2 z u → P u → Q z H2) → r x H Q
def CaP (W : Wd) (r : List V → Hp → VK → Prop) (ss : List Slot) (P : Slot → Prop) : Prop := ∀ G H xs, W.Cur G H → Paired (VOk W G H) xs ss → ∀ Q : VK,
  (∀ z G2 H2 u, W.Go G H G2 H2 → VOk W G2 H2 z u → P u → Q z H2) → r xs H Q
def CaF (W : Wd) (r : List V → Hp → VK → Prop) (ss : List Slot) (P : List DD → Prop) : Prop := ∀ G H xs, W.Cur G H → Paired (VOk W G H) xs ss → ∀ Q : VK,
  (∀ p ys G2 H2 ds, W.Go G H G2 H2 → H p = none → G2 p = none → H2 p = some (.lst ys) → RpAll G2 ys ds → P ds → Q (.ref p) H2) → r xs H Q

section
variable {W : Wd} {ρ : List Slot} {ta tb te : TE} {r : R2} {P : Slot → Prop} {PL : List DD → Prop}
theorem St.refl {G H : Hp} {σ : L2.St} (S : St W G H σ ρ) : W.Go G H G H := Fr.refl S.cur.gh S.cur.j
theorem Fr.self {G H : Hp} (c : W.Cur G H) : W.Go G H G H := Fr.refl c.gh c.j
theorem EvP.imp {P P' : Slot → Prop} (h : EvP W te ρ P) (k : ∀ s, P s → P' s) : EvP W te ρ P' := fun σ G H S Q q => h σ G H S Q fun x G2 H2 s f v p => q x G2 H2 s f v (k s p)
theorem EvT.imp {t : TT} {P P' : Bool → Prop} (h : EvT W t ρ P) (k : ∀ s, P s → P' s) : EvT W t ρ P' := fun σ G H S Q q => h σ G H S Q fun x G2 H2 f p => q x G2 H2 f (k x p)
theorem evp_var {i : Nat} {s : Slot} (h : ρ[i]? = some s) (n : s ≠ .no) (k : P (lend s)) : EvP W (tVar i) ρ P := fun σ G H S Q q => by
  obtain ⟨x, h1, h2⟩ := S.sl i s h n
  exact ⟨x, h1, q x G H (lend s) S.refl h2.lend k⟩
theorem evp_dat {i : Nat} {d : DD} (h : ρ[i]? = some (.dat d)) (k : P (.dat d)) : EvP W (tVar i) ρ P := evp_var h (fun z => nomatch z) k
theorem evp_int {i : Int} (k : P (.dat (.int i))) : EvP W (tC (.int i)) ρ P := fun σ G H S Q q => q _ G H _ S.refl (vd (Rp.int i)) k
theorem evp_str {i : Str} (k : P (.dat (.str i))) : EvP W (tC (.str i)) ρ P := fun σ G H S Q q => q _ G H _ S.refl (vd (Rp.str i)) k
theorem evp_bl {i : Bool} (k : P (.dat (.bl i))) : EvP W (tC (.bl i)) ρ P := fun σ G H S Q q => q _ G H _ S.refl (vd (Rp.bl i)) k
theorem evp_non (k : P (.dat .non)) : EvP W (tC .non) ρ P := fun σ G H S Q q => q _ G H _ S.refl (vd Rp.non) k
theorem evp_op (h : EvP W ta ρ fun s => EvP W tb ρ fun t => OpP W r s t P) : EvP W (tOp r ta tb) ρ P := fun σ G H S Q q =>
  h σ G H S _ fun x G1 H1 s f1 v1 h1 => h1 σ G1 H1 (S.go f1) _ fun y G2 H2 t f2 v2 h2 => h2 G2 H2 x y ((S.cur.trans f1).trans f2) (v1.go f2) v2 Q
    fun z G3 H3 u f3 v3 p => q z G3 H3 u ((f1.trans f2).trans f3) v3 p
theorem evf_op (h : EvP W ta ρ fun s => EvP W tb ρ fun t => OpF W r s t PL) : EvF W (tOp r ta tb) ρ PL := fun σ G H S Q q =>
  h σ G H S _ fun x G1 H1 s f1 v1 h1 => h1 σ G1 H1 (S.go f1) _ fun y G2 H2 t f2 v2 h2 => h2 G2 H2 x y ((S.cur.trans f1).trans f2) (v1.go f2) v2 Q
    fun p xs G3 H3 ds f3 hp gp h3 ra pd => q p xs G3 H3 ds ((f1.trans f2).trans f3) (f1.fr p (f2.fr p hp)) gp h3 ra pd
theorem evp_un {r : V → Hp → VK → Prop} (h : EvP W ta ρ fun s => UnP W r s P) : EvP W (tUn r ta) ρ P := fun σ G H S Q q =>
  h σ G H S _ fun x G1 H1 s f1 v1 h1 => h1 G1 H1 x (S.cur.trans f1) v1 Q fun z G3 H3 u f3 v3 p => q z G3 H3 u (f1.trans f3) v3 p
theorem eva_nil {P : List Slot → Prop} (k : P []) : EvA W tNil ρ P := fun σ G H S Q q => q [] G H [] S.refl .nil k
theorem eva_cons {tr : TA} {P : List Slot → Prop} (h : EvP W te ρ fun s => EvA W tr ρ fun ss => P (s :: ss)) : EvA W (tCons te tr) ρ P := fun σ G H S Q q =>
  h σ G H S _ fun x G1 H1 s f1 v1 h1 => h1 σ G1 H1 (S.go f1) _ fun xs G2 H2 ss f2 v2 p => q (x :: xs) G2 H2 (s :: ss) (f1.trans f2) (.cons (v1.go f2) v2) p
theorem evp_cb {r : List V → Hp → VK → Prop} {t : TA} (h : EvA W t ρ fun ss => CaP W r ss P) : EvP W (tCB r t) ρ P := fun σ G H S Q q =>
  h σ G H S _ fun xs G1 H1 ss f1 v1 h1 => h1 G1 H1 xs (S.cur.trans f1) v1 Q fun z G2 H2 u f2 v p => q z G2 H2 u (f1.trans f2) v p
theorem evf_cb {r : List V → Hp → VK → Prop} {t : TA} (h : EvA W t ρ fun ss => CaF W r ss PL) : EvF W (tCB r t) ρ PL := fun σ G H S Q q =>
  h σ G H S _ fun xs G1 H1 ss f1 v1 h1 => h1 G1 H1 xs (S.cur.trans f1) v1 Q fun p ys G2 H2 ds f2 hp gp h2 ra pd => q p ys G2 H2 ds (f1.trans f2) (f1.fr p hp) gp h2 ra pd
/-- what makes a new list makes data -/
theorem evp_new (h : EvF W te ρ fun ds => P (.dat (.lst ds))) : EvP W te ρ P := fun σ G H S Q q =>
  h σ G H S Q fun p xs G2 H2 ds f hp gp h2 ra pd => q (.ref p) (upd G2 p (.lst xs)) H2 _ (f.settle hp gp h2) (vd (Rp.lst upd_same (ra.mono fun a u e => by
    have : a ≠ p := fun z => by subst z; rw [gp] at e; cases e
    rw [upd_ne this]; exact e))) pd
/-- data among values -/
theorem rps_of {G H : Hp} : ∀ {xs : List V} {ds : List DD}, Paired (VOk W G H) xs (ds.map .dat) → RpAll G xs ds
  | _, [], h => by cases h; exact .nil
  | _, d :: ds, h => by
    cases h with
    | cons h1 h2 => exact .cons h1 (rps_of h2)
theorem sz_le {n : Nat} (h : n ≤ 100000) : n ≤ sizeLine := Nat.le_trans h (by decide)
theorem sz_lt {n : Nat} (h : n < 100000) : n < sizeLine := Nat.lt_of_lt_of_le h (by decide)
theorem evp_tup {t : TA} (h : EvA W t ρ fun ss => ∃ ds : List DD, ss = ds.map .dat ∧ ds.length ≤ 100000 ∧ P (.dat (.tup ds))) : EvP W (tTup t) ρ P := fun σ G H S Q q =>
  h σ G H S _ fun xs G1 H1 ss f1 v1 ⟨ds, e, hl, p⟩ => by
    subst e
    have ra := rps_of v1
    refine ⟨by rw [ra.length]; exact sz_le hl, fun a ha => ?_⟩
    have f2 := W.new (o := .tup xs) (S.cur.trans f1) ha
    exact q (.ref a) _ _ _ (f1.trans f2) (vd (Rp.tup upd_same (ra.mono f2.gg))) p
theorem evf_lst {t : TA} (h : EvA W t ρ fun ss => ∃ ds : List DD, ss = ds.map .dat ∧ ds.length ≤ 100000 ∧ PL ds) : EvF W (tLst t) ρ PL := fun σ G H S Q q =>
  h σ G H S _ fun xs G1 H1 ss f1 v1 ⟨ds, e, hl, p⟩ => by
    subst e
    have ra := rps_of v1
    refine ⟨by rw [ra.length]; exact sz_le hl, fun a ha => ?_⟩
    have f2 := W.newH (o := .lst xs) (S.cur.trans f1) ha
    have ga : G1 a = none := by
      cases z : G1 a with
      | none => rfl
      | some u => rw [f1.gh a u z] at ha; cases ha
    exact q a xs _ _ ds (f1.trans f2) (f1.fr a ha) ga upd_same ra p

/-! ### tests -/
variable {t u : TT} {PB : Bool → Prop}
theorem evt_test (h : EvP W te ρ fun s => ∃ b, s = .dat (.bl b) ∧ PB b) : EvT W (tTest te) ρ PB := fun σ G H S Q q =>
  h σ G H S _ fun x G1 H1 s f1 v1 ⟨b, e, p⟩ => by subst e; cases v1; exact ⟨b, rfl, q b G1 H1 f1 p⟩
theorem evt_B (h : EvP W te ρ fun s => ∃ b, s = .dat (.bl b) ∧ PB b) : EvT W (tB te) ρ PB := fun σ G H S Q q =>
  h σ G H S _ fun x G1 H1 s f1 v1 ⟨b, e, p⟩ => by subst e; cases v1; exact ⟨b, rfl, q b G1 H1 f1 p⟩
theorem evt_and (h : EvT W t ρ fun a => (a = true → EvT W u ρ PB) ∧ (a = false → PB false)) : EvT W (tAnd t u) ρ PB := fun σ G H S Q q =>
  h σ G H S _ fun a G1 H1 f1 ⟨h1, h2⟩ => by
    cases a with
    | true => exact h1 rfl σ G1 H1 (S.go f1) Q fun b G2 H2 f2 p => q b G2 H2 (f1.trans f2) p
    | false => exact q false G1 H1 f1 (h2 rfl)
theorem evt_or (h : EvT W t ρ fun a => (a = true → PB true) ∧ (a = false → EvT W u ρ PB)) : EvT W (tOr t u) ρ PB := fun σ G H S Q q =>
  h σ G H S _ fun a G1 H1 f1 ⟨h1, h2⟩ => by
    cases a with
    | false => exact h2 rfl σ G1 H1 (S.go f1) Q fun b G2 H2 f2 p => q b G2 H2 (f1.trans f2) p
    | true => exact q true G1 H1 f1 (h1 rfl)
theorem evt_not (h : EvT W t ρ fun a => PB (!a)) : EvT W (tNot t) ρ PB := fun σ G H S Q q =>
  h σ G H S _ fun a G1 H1 f1 p => q (!a) G1 H1 f1 p
theorem evp_andV (h : EvP W ta ρ fun s => ∃ a, s = .dat (.bl a) ∧ (a = true → EvP W tb ρ P) ∧ (a = false → P (.dat (.bl false)))) : EvP W (tAndV ta tb) ρ P := fun σ G H S Q q =>
  h σ G H S _ fun x G1 H1 s f1 v1 ⟨a, e, h1, h2⟩ => by
    subst e; cases v1
    refine ⟨a, rfl, ?_⟩
    cases a with
    | true => exact h1 rfl σ G1 H1 (S.go f1) Q fun b G2 H2 s f2 v p => q b G2 H2 s (f1.trans f2) v p
    | false => exact q _ G1 H1 _ f1 (vd (Rp.bl false)) (h2 rfl)
theorem evp_orV (h : EvP W ta ρ fun s => ∃ a, s = .dat (.bl a) ∧ (a = true → P (.dat (.bl true))) ∧ (a = false → EvP W tb ρ P)) : EvP W (tOrV ta tb) ρ P := fun σ G H S Q q =>
  h σ G H S _ fun x G1 H1 s f1 v1 ⟨a, e, h1, h2⟩ => by
    subst e; cases v1
    refine ⟨a, rfl, ?_⟩
    cases a with
    | false => exact h2 rfl σ G1 H1 (S.go f1) Q fun b G2 H2 s f2 v p => q b G2 H2 s (f1.trans f2) v p
    | true => exact q _ G1 H1 _ f1 (vd (Rp.bl true)) (h1 rfl)
theorem evp_notV (h : EvP W ta ρ fun s => ∃ a, s = .dat (.bl a) ∧ P (.dat (.bl (!a)))) : EvP W (tNotV ta) ρ P := fun σ G H S Q q =>
  h σ G H S _ fun x G1 H1 s f1 v1 ⟨a, e, h1⟩ => by
    subst e; cases v1
    exact ⟨a, rfl, q _ G1 H1 _ f1 (vd (Rp.bl _)) h1⟩
theorem evp_if (h : EvT W t ρ fun a => (a = true → EvP W ta ρ P) ∧ (a = false → EvP W tb ρ P)) : EvP W (tIf t ta tb) ρ P := fun σ G H S Q q =>
  h σ G H S _ fun a G1 H1 f1 ⟨h1, h2⟩ => by
    cases a with
    | true => exact h1 rfl σ G1 H1 (S.go f1) Q fun b G2 H2 s f2 v p => q b G2 H2 s (f1.trans f2) v p
    | false => exact h2 rfl σ G1 H1 (S.go f1) Q fun b G2 H2 s f2 v p => q b G2 H2 s (f1.trans f2) v p
end
end Dl

set_option Elab.async false
set_option linter.all false
set_option maxRecDepth 100000
set_option maxHeartbeats 1000000
/-! D2: operations on values, over data. -/
namespace Dl
open PySem L2

/-- a slot that holds a list or a tuple of these; a list -/
inductive SeqS : Slot → List DD → Prop
  | lst (ds : List DD) : SeqS (.dat (.lst ds)) ds
  | tup (ds : List DD) : SeqS (.dat (.tup ds)) ds
  | seq (m : Md) (ds : List DD) : SeqS (.seq m ds) ds
inductive LsS : Slot → List DD → Prop
  | lst (ds : List DD) : LsS (.dat (.lst ds)) ds
  | seq (m : Md) (ds : List DD) : LsS (.seq m ds) ds
theorem LsS.seqS {s : Slot} {ds : List DD} : LsS s ds → SeqS s ds
  | .lst ds => .lst ds
  | .seq m ds => .seq m ds
section
variable {W : Wd} {G H : Hp} {K : PySem.W.Frag} {x y : V} {s t : Slot} {ds es : List DD}
theorem LsS.get (h : LsS s ds) (v : VOk W G H x s) (g : Same G H) : ∃ a xs, x = .ref a ∧ H a = some (.lst xs) ∧ RpAll G xs ds := by
  cases h with
  | lst =>
    cases v with
    | lst h1 h2 => exact ⟨_, _, rfl, g _ _ h1, h2⟩
  | seq m =>
    obtain ⟨l, xs, e, h1, _, _, _, _, h6⟩ := v
    exact ⟨l, xs, e, h1, h6⟩
theorem SeqS.get (h : SeqS s ds) (v : VOk W G H x s) (g : Same G H) : ∃ a xs, x = .ref a ∧ (SqL K H a xs ∨ SqT K H a xs) ∧ RpAll G xs ds := by
  cases h with
  | lst =>
    cases v with
    | lst h1 h2 => exact ⟨_, _, rfl, .inl (SqL.of (g _ _ h1)), h2⟩
  | tup =>
    cases v with
    | tup h1 h2 => exact ⟨_, _, rfl, .inr (SqT.of (g _ _ h1)), h2⟩
  | seq m =>
    obtain ⟨l, xs, e, h1, _, _, _, _, h6⟩ := v
    exact ⟨l, xs, e, .inl (SqL.of h1), h6⟩
end

/-! ### arithmetic -/
def rAddU : R2 := fun x y H Q => rI0 (fun i j => .int (i + j)) x y H Q ∨ rCat x y H Q
theorem op_addU {X : Cx} : OpR X (binaryOp .Add) rAddU := op_add.or op_cat
def rSubI : R2 := rI0 fun i j => .int (i - j)
theorem op_subI {X : Cx} : OpR X (binaryOp .Sub) rSubI := op_sub
def rMulI : R2 := rI CMul fun i j => .int (i * j)
theorem op_mulI {X : Cx} : OpR X (binaryOp .Mult) rMulI := op_mul
def rModI : R2 := rI (fun _ j => 0 < j) fun i j => .int (i % j)
theorem op_modI {X : Cx} : OpR X (binaryOp .Mod) rModI := op_mod
def rDivI : R2 := rI CDiv fun i j => .int (i / j)
theorem op_divI {X : Cx} : OpR X (binaryOp .FloorDiv) rDivI := op_fdiv
def rPowI : R2 := rI CPow fun i j => .int (i ^ j.toNat)
theorem op_powI {X : Cx} : OpR X (binaryOp .Pow) rPowI := op_pow
def rNegI : V → Hp → VK → Prop := rU fun i => .int (-i)
theorem un_negI {X : Cx} : UnR X (unaryOp .USub) rNegI := un_neg
def rLtI : R2 := rI0 fun i j => .bl (decide (i < j))
def rLeI : R2 := rI0 fun i j => .bl (decide (i ≤ j))
def rGtI : R2 := rI0 fun i j => .bl (decide (j < i))
def rGeI : R2 := rI0 fun i j => .bl (decide (j ≤ i))
theorem op_ltI {X : Cx} : OpR X (compareOp .Lt) rLtI := op_lt
theorem op_leI {X : Cx} : OpR X (compareOp .LtE) rLeI := op_le
theorem op_gtI {X : Cx} : OpR X (compareOp .Gt) rGtI := op_gt
theorem op_geI {X : Cx} : OpR X (compareOp .GtE) rGeI := op_ge
section
variable {W : Wd} {K : PySem.W.Frag} {P : Slot → Prop} {PL : List DD → Prop} {i j : Int} {s t : Slot} {ds es : List DD} {d : DD}
theorem opp_add (k : P (.dat (.int (i + j)))) : OpP W rAddU (.dat (.int i)) (.dat (.int j)) P := fun G H x y c vx vy Q q => by
  cases vx; cases vy
  exact .inl ⟨i, j, rfl, rfl, q _ G H _ (Fr.self c) (vd (Rp.int _)) k⟩
theorem opf_cat (hs : LsS s ds) (ht : LsS t es) (hl : ds.length + es.length ≤ 100000) (k : PL (ds ++ es)) : OpF W rAddU s t PL := fun G H x y c vx vy Q q => by
  obtain ⟨a, xs, rfl, h1, r1⟩ := hs.get vx c.gh
  obtain ⟨b, ys, rfl, h2, r2⟩ := ht.get vy c.gh
  refine .inr ⟨a, b, xs, ys, rfl, rfl, h1, h2, ?_, fun p hp => ?_⟩
  · rw [r1.length, r2.length]; exact sz_le hl
  · have gp : G p = none := by
      cases z : G p with
      | none => rfl
      | some u => rw [c.gh p u z] at hp; cases hp
    exact q p (xs ++ ys) G _ (ds ++ es) (W.newH c hp) hp gp upd_same (r1.append r2) k
theorem opp_sub (k : P (.dat (.int (i - j)))) : OpP W rSubI (.dat (.int i)) (.dat (.int j)) P := fun G H x y c vx vy Q q => by
  cases vx; cases vy
  exact ⟨i, j, rfl, rfl, q _ G H _ (Fr.self c) (vd (Rp.int _)) k⟩
theorem opp_mul (hc : CMul i j) (k : P (.dat (.int (i * j)))) : OpP W rMulI (.dat (.int i)) (.dat (.int j)) P := fun G H x y c vx vy Q q => by
  cases vx; cases vy
  exact ⟨i, j, rfl, rfl, hc, q _ G H _ (Fr.self c) (vd (Rp.int _)) k⟩
theorem opp_mod (hc : 0 < j) (k : P (.dat (.int (i % j)))) : OpP W rModI (.dat (.int i)) (.dat (.int j)) P := fun G H x y c vx vy Q q => by
  cases vx; cases vy
  exact ⟨i, j, rfl, rfl, hc, q _ G H _ (Fr.self c) (vd (Rp.int _)) k⟩
theorem opp_div (hc : CDiv i j) (k : P (.dat (.int (i / j)))) : OpP W rDivI (.dat (.int i)) (.dat (.int j)) P := fun G H x y c vx vy Q q => by
  cases vx; cases vy
  exact ⟨i, j, rfl, rfl, hc, q _ G H _ (Fr.self c) (vd (Rp.int _)) k⟩
theorem opp_pow (hc : CPow i j) (k : P (.dat (.int (i ^ j.toNat)))) : OpP W rPowI (.dat (.int i)) (.dat (.int j)) P := fun G H x y c vx vy Q q => by
  cases vx; cases vy
  exact ⟨i, j, rfl, rfl, hc, q _ G H _ (Fr.self c) (vd (Rp.int _)) k⟩
theorem unp_neg (k : P (.dat (.int (-i)))) : UnP W rNegI (.dat (.int i)) P := fun G H x c vx Q q => by
  cases vx
  exact ⟨i, rfl, q _ G H _ (Fr.self c) (vd (Rp.int _)) k⟩
theorem opp_lt (k : P (.dat (.bl (decide (i < j))))) : OpP W rLtI (.dat (.int i)) (.dat (.int j)) P := fun G H x y c vx vy Q q => by
  cases vx; cases vy
  exact ⟨i, j, rfl, rfl, q _ G H _ (Fr.self c) (vd (Rp.bl _)) k⟩
theorem opp_le (k : P (.dat (.bl (decide (i ≤ j))))) : OpP W rLeI (.dat (.int i)) (.dat (.int j)) P := fun G H x y c vx vy Q q => by
  cases vx; cases vy
  exact ⟨i, j, rfl, rfl, q _ G H _ (Fr.self c) (vd (Rp.bl _)) k⟩
theorem opp_gt (k : P (.dat (.bl (decide (j < i))))) : OpP W rGtI (.dat (.int i)) (.dat (.int j)) P := fun G H x y c vx vy Q q => by
  cases vx; cases vy
  exact ⟨i, j, rfl, rfl, q _ G H _ (Fr.self c) (vd (Rp.bl _)) k⟩
theorem opp_ge (k : P (.dat (.bl (decide (j ≤ i))))) : OpP W rGeI (.dat (.int i)) (.dat (.int j)) P := fun G H x y c vx vy Q q => by
  cases vx; cases vy
  exact ⟨i, j, rfl, rfl, q _ G H _ (Fr.self c) (vd (Rp.bl _)) k⟩

/-! ### is None -/
def isNoneD : DD → Bool
  | .non => true
  | .any v => decide (v = .non)
  | _ => false
theorem rp_none {G : Hp} {x : V} (h : Rp G x d) : decide (x = .non) = isNoneD d := by
  cases h <;> first | rfl | exact decide_eq_false (fun z => nomatch z)
theorem opp_isN (k : P (.dat (.bl (isNoneD d)))) : OpP W rIsN (.dat d) (.dat .non) P := fun G H x y c vx vy Q q => by
  cases vy
  exact ⟨rfl, q _ G H _ (Fr.self c) (vd (by rw [rp_none vx]; exact Rp.bl _)) k⟩
theorem opp_notN (k : P (.dat (.bl (!isNoneD d)))) : OpP W rNotN (.dat d) (.dat .non) P := fun G H x y c vx vy Q q => by
  cases vy
  exact ⟨rfl, q _ G H _ (Fr.self c) (vd (by rw [rp_none vx]; exact Rp.bl _)) k⟩

/-! ### items -/
theorem atI_rp {G : Hp} {xs : List V} (r : RpAll G xs ds) (h : atI ds i = some d) : ∃ x, atI xs i = some x ∧ Rp G x d := by
  unfold atI at h ⊢
  rw [r.length]
  cases e : ixN ds.length i with
  | none => rw [e] at h; cases h
  | some j =>
    rw [e] at h
    exact r.get h
theorem opp_ix (hs : SeqS s ds) (ha : atI ds i = some d) (k : P (.dat d)) : OpP W (rIx K) s (.dat (.int i)) P := fun G H x y c vx vy Q q => by
  cases vy
  obtain ⟨a, xs, rfl, h1, r1⟩ := hs.get (K := K) vx c.gh
  obtain ⟨v, hv, rv⟩ := atI_rp r1 ha
  have fin := q v G H _ (Fr.self c) (vd rv) k
  rcases h1 with h1 | h1
  · exact .inl ⟨a, xs, i, v, rfl, rfl, h1, hv, fin⟩
  · exact .inr (.inl ⟨a, xs, i, v, rfl, rfl, h1, hv, fin⟩)
theorem opp_ixn {n : Nat} (hs : SeqS s ds) (ha : ds[n]? = some d) (k : P (.dat d)) : OpP W (rIx K) s (.dat (.int (n : Int))) P := opp_ix hs (atI_nat ha) k

/-! ### equality -/
def pyD : DD → PyData
  | .non => .none
  | .bl b => .bool b
  | .int i => .int i
  | .str x => .str x
  | .lst ds => .list (ds.attach.map fun ⟨d, _⟩ => pyD d)
  | .tup ds => .tuple (ds.attach.map fun ⟨d, _⟩ => pyD d)
  | _ => .none
theorem pyD_lst (ds : List DD) : pyD (.lst ds) = .list (ds.map pyD) := by
  rw [pyD, List.map_attach_eq_pmap, List.pmap_eq_map]
theorem pyD_tup (ds : List DD) : pyD (.tup ds) = .tuple (ds.map pyD) := by
  rw [pyD, List.map_attach_eq_pmap, List.pmap_eq_map]
/-- plain data, nested at most so deep: none, ints, texts, lists, tuples -/
def pl : Nat → DD → Bool
  | _, .non => true
  | _, .int _ => true
  | _, .str x => PyData.strOk x
  | n + 1, .lst ds => ds.all (pl n)
  | n + 1, .tup ds => ds.all (pl n)
  | _, _ => false
def slotPy : Slot → DD
  | .dat d => d
  | .seq _ ds => .lst ds
  | .no => .non
def PlOk (K : PySem.W.Frag) (n : Nat) (d : DD) : Prop := (∀ {G H : Hp} {x : V}, Rp G x d → Same G H → Dp K H x (pyD d)) ∧ (pyD d).canLay0 = true ∧ (pyD d).depth ≤ n ∧ (pyD d).hasDict = false
theorem plo_non {n : Nat} : PlOk K n .non := ⟨fun r _ => by cases r; rw [pyD]; exact .non, by simp [pyD, PyData.canLay0], by simp [pyD, PyData.depth], by simp [pyD, PyData.hasDict]⟩
theorem plo_int {n : Nat} (i : Int) : PlOk K n (.int i) := ⟨fun r _ => by cases r; rw [pyD]; exact .int _, by simp [pyD, PyData.canLay0], by simp [pyD, PyData.depth], by simp [pyD, PyData.hasDict]⟩
theorem plo_str {n : Nat} (x : Str) (h : PyData.strOk x = true) : PlOk K n (.str x) := ⟨fun r _ => by cases r; rw [pyD]; exact .str _, by simp [pyD, PyData.canLay0, h], by simp [pyD, PyData.depth], by simp [pyD, PyData.hasDict]⟩
theorem pl_all : ∀ (n : Nat) (d : DD), pl n d = true → PlOk K n d := by
  intro n
  induction n with
  | zero =>
    intro d h
    cases d with
    | non => exact plo_non
    | int i => exact plo_int i
    | str x => exact plo_str x h
    | _ => cases h
  | succ n ih =>
    intro d h
    have hrec : ∀ ds : List DD, ds.all (pl n) = true → (∀ {G H : Hp} {xs : List V}, RpAll G xs ds → Same G H → DpAll K H xs (ds.map pyD)) ∧ PyData.canLayAll0 (ds.map pyD) = true ∧ PyData.depthAll (ds.map pyD) ≤ n ∧ PyData.hasDictAll (ds.map pyD) = false := by
      intro ds
      induction ds with
      | nil => intro _; refine ⟨fun r _ => by cases r; exact .nil, ?_, ?_, ?_⟩ <;> simp [PyData.canLayAll0, PyData.depthAll, PyData.hasDictAll]
      | cons e es ih2 =>
        intro h
        rw [List.all_cons, Bool.and_eq_true] at h
        obtain ⟨a1, a2, a3, a4⟩ := ih e h.1
        obtain ⟨b1, b2, b3, b4⟩ := ih2 h.2
        refine ⟨fun r g => ?_, ?_, ?_, ?_⟩
        · cases r with
          | cons r1 r2 => exact .cons (a1 r1 g) (b1 r2 g)
        · simp [PyData.canLayAll0, a2, b2]
        · simp only [List.map_cons, PyData.depthAll]; omega
        · simp [PyData.hasDictAll, a4, b4]
    cases d with
    | non => exact plo_non
    | int i => exact plo_int i
    | str x => exact plo_str x h
    | lst ds =>
      obtain ⟨b1, b2, b3, b4⟩ := hrec ds h
      unfold PlOk
      rw [pyD_lst]
      refine ⟨fun r g => ?_, ?_, ?_, ?_⟩
      · cases r with
        | lst h1 h2 => exact .lst (SqL.of (g _ _ h1)) (b1 h2 g)
      · simp [PyData.canLay0, b2]
      · simp only [PyData.depth]; omega
      · simp [PyData.hasDict, b4]
    | tup ds =>
      obtain ⟨b1, b2, b3, b4⟩ := hrec ds h
      unfold PlOk
      rw [pyD_tup]
      refine ⟨fun r g => ?_, ?_, ?_, ?_⟩
      · cases r with
        | tup h1 h2 => exact .tup (SqT.of (g _ _ h1)) (b1 h2 g)
      · simp [PyData.canLay0, b2]
      · simp only [PyData.depth]; omega
      · simp [PyData.hasDict, b4]
    | _ => cases h
theorem shaped_of (K : PySem.W.Frag) {n : Nat} {d : DD} (hn : n ≤ 64) (h : pl n d = true) : SeqAt.shaped (pyD d) = true := by
  obtain ⟨_, h2, h3, _⟩ := pl_all (K := K) n d h
  unfold SeqAt.shaped
  rw [h2, decide_eq_true (show (pyD d).depth ≤ 64 by omega)] <;> rfl
/-- == of plain data is equality -/
theorem eqv_iff : ∀ (n : Nat) (d e : DD), pl n d = true → pl n e = true → (PyData.eqv (pyD d) (pyD e) = true ↔ d = e) := by
  intro n
  induction n with
  | zero =>
    intro d e hd he
    cases d <;> cases e <;> simp [pl] at hd he <;> simp [pyD, PyData.eqv]
  | succ n ih =>
    intro d e hd he
    have hrec : ∀ ds es : List DD, ds.all (pl n) = true → es.all (pl n) = true → (PyData.eqvAll (ds.map pyD) (es.map pyD) = true ↔ ds = es) := by
      intro ds
      induction ds with
      | nil => intro es _ _; cases es <;> simp [PyData.eqvAll]
      | cons a as ih2 =>
        intro es h1 h2
        cases es with
        | nil => simp [PyData.eqvAll]
        | cons b bs =>
          rw [List.all_cons, Bool.and_eq_true] at h1 h2
          simp only [List.map_cons, PyData.eqvAll, Bool.and_eq_true, ih a b h1.1 h2.1, ih2 bs h1.2 h2.2, List.cons.injEq]
    cases d <;> cases e <;> first
      | (exfalso; simp [pl] at hd; done)
      | (exfalso; simp [pl] at he; done)
      | (simp [pyD, PyData.eqv]; done)
      | (rw [pyD_lst, pyD_lst]; simp only [PyData.eqv, DD.lst.injEq]; exact hrec _ _ hd he)
      | (rw [pyD_tup, pyD_tup]; simp only [PyData.eqv, DD.tup.injEq]; exact hrec _ _ hd he)
      | (rw [pyD_lst]; simp [pyD, PyData.eqv]; done)
      | (rw [pyD_tup]; simp [pyD, PyData.eqv]; done)
      | (rw [pyD_tup, pyD_lst]; simp [PyData.eqv]; done)
      | (rw [pyD_lst, pyD_tup]; simp [PyData.eqv]; done)
/-- what stands in a slot, as data to be compared -/
theorem slot_dp {W : Wd} {G H : Hp} {x : V} {s : Slot} {n : Nat} (hs : s ≠ .no) (v : VOk W G H x s) (g : Same G H) (h : pl n (slotPy s) = true) : Dp K H x (pyD (slotPy s)) := by
  cases s with
  | no => exact absurd rfl hs
  | dat d => exact (pl_all n d h).1 v g
  | seq m ds =>
    obtain ⟨l, xs, rfl, h1, h2, _, _, _, h6⟩ := v
    have := (pl_all (K := K) n (.lst ds) h).1 (G := upd G l (.lst xs)) (H := upd H l (.lst xs)) (x := .ref l) (.lst upd_same (h6.mono fun a u e => by
      have : a ≠ l := fun z => by subst z; rw [h2] at e; cases e
      rw [upd_ne this]; exact e)) (fun a u e => by
        by_cases z : a = l
        · subst z; rw [upd_same] at e ⊢; exact e
        · rw [upd_ne z] at e ⊢; exact g a u e)
    have eH : upd H l (.lst xs) = H := by
      funext b
      by_cases z : b = l
      · subst z; rw [upd_same, h1]
      · rw [upd_ne z]
    rw [eH] at this
    exact this
theorem opp_eq {n : Nat} (hn : n ≤ 64) (s0 : s ≠ .no) (t0 : t ≠ .no) (hs : pl n (slotPy s) = true) (ht : pl n (slotPy t) = true) (k : ∀ b : Bool, (b = true ↔ slotPy s = slotPy t) → P (.dat (.bl b))) : OpP W (rEqD K) s t P := fun G H x y c vx vy Q q =>
  ⟨_, _, slot_dp s0 vx c.gh hs, slot_dp t0 vy c.gh ht, shaped_of K hn hs, shaped_of K hn ht, q _ G H _ (Fr.self c) (vd (Rp.bl _)) (k _ (eqv_iff n _ _ hs ht))⟩
theorem opp_ne {n : Nat} (hn : n ≤ 64) (s0 : s ≠ .no) (t0 : t ≠ .no) (hs : pl n (slotPy s) = true) (ht : pl n (slotPy t) = true) (k : ∀ b : Bool, (b = true ↔ slotPy s ≠ slotPy t) → P (.dat (.bl b))) : OpP W (rNeD K) s t P := fun G H x y c vx vy Q q =>
  ⟨_, _, slot_dp s0 vx c.gh hs, slot_dp t0 vy c.gh ht, shaped_of K hn hs, shaped_of K hn ht, q _ G H _ (Fr.self c) (vd (Rp.bl _)) (k _ (by
    have := eqv_iff n _ _ hs ht
    cases e : PyData.eqv (pyD (slotPy s)) (pyD (slotPy t)) with
    | true => simp [this.mp e]
    | false => simp; intro z; rw [this.mpr z] at e; cases e))⟩
end
end Dl

set_option Elab.async false
set_option linter.all false
set_option maxRecDepth 100000
set_option maxHeartbeats 1000000
/-! D3: slices, built-ins, targets, statements, loops, comprehensions, over data. -/
namespace Dl
open PySem L2

/-! ### slices -/
def EvO (W : Wd) (to : TO) (ρ : List Slot) (P : Option Int → Prop) : Prop := ∀ σ G H, St W G H σ ρ → ∀ Q : Option Int → Hp → Prop,
  (∀ o G2 H2, W.Go G H G2 H2 → P o → Q o H2) → to σ H Q
def rSlU (K : PySem.W.Frag) : V → Option Int → Option Int → Hp → VK → Prop := fun x lo hi H Q => rSlL K x lo hi H Q ∨ rSlA K x lo hi H Q
theorem sl_U {X : Cx} : SlR X (rSlU X.K) := sl_list.or sl_tupA
theorem cut_from {xs : List V} {k : Nat} : cutV xs (some (k : Int)) none = xs.drop k := by
  unfold cutV
  rw [HT.sIx_nat, HT.sIx_none]
  by_cases h : k ≤ xs.length
  · rw [Nat.min_eq_left h, List.take_of_length_le (by rw [List.length_drop]; omega)]
  · rw [Nat.min_eq_right (by omega), List.drop_eq_nil_of_le (Nat.le_refl _), List.drop_eq_nil_of_le (by omega)]
    simp
def sameKind : Slot → List DD → DD
  | .dat (.tup _), ds => .tup ds
  | _, ds => .lst ds
section
variable {W : Wd} {ρ : List Slot} {K : PySem.W.Frag} {P : Slot → Prop} {PL : List DD → Prop} {te : TE} {tl th : TO} {s : Slot} {ds es : List DD} {d : DD}
theorem evo_no {PO : Option Int → Prop} (k : PO none) : EvO W tNoPart ρ PO := fun σ G H S Q q => q none G H S.refl k
theorem evo_part {PO : Option Int → Prop} (h : EvP W te ρ fun s => ∃ i, s = .dat (.int i) ∧ PO (some i)) : EvO W (tPart te) ρ PO := fun σ G H S Q q =>
  h σ G H S _ fun x G1 H1 s f1 v1 ⟨i, e, p⟩ => by subst e; cases v1; exact ⟨i, rfl, q _ G1 H1 f1 p⟩
theorem fresh_g {G H : Hp} {p : Addr} (g : Same G H) (hp : H p = none) : G p = none := by
  cases z : G p with
  | none => rfl
  | some u => rw [g p u z] at hp; cases hp
/-- a list's end from k on -/
theorem evf_from (h : EvP W te ρ fun s => ∃ ds, LsS s ds ∧ EvO W tl ρ fun o => ∃ k : Nat, o = some (k : Int) ∧ PL (ds.drop k)) : EvF W (tSl (rSlU K) te tl tNoPart) ρ PL := fun σ G H S Q q =>
  h σ G H S _ fun x G1 H1 s f1 v1 ⟨ds, hs, h1⟩ => h1 σ G1 H1 (S.go f1) _ fun o G2 H2 f2 ⟨k, e, p⟩ => by
    subst e
    obtain ⟨a, xs, rfl, ha, ra⟩ := hs.get (v1.go f2) f2.gh
    refine .inl ⟨a, xs, rfl, SqL.of ha, fun b hb => ?_⟩
    rw [cut_from]
    have c := (S.cur.trans f1).trans f2
    exact q b _ G2 _ _ ((f1.trans f2).trans (W.newH c hb)) (f1.fr b (f2.fr b hb)) (fresh_g c.gh hb) upd_same (ra.drop k) p
/-- a tuple's end from k on -/
theorem evp_fromT (h : EvP W te ρ fun s => ∃ ds, s = .dat (.tup ds) ∧ EvO W tl ρ fun o => ∃ k : Nat, o = some (k : Int) ∧ P (.dat (.tup (ds.drop k)))) : EvP W (tSl (rSlU K) te tl tNoPart) ρ P := fun σ G H S Q q =>
  h σ G H S _ fun x G1 H1 s f1 v1 ⟨ds, hs, h1⟩ => h1 σ G1 H1 (S.go f1) _ fun o G2 H2 f2 ⟨k, e, p⟩ => by
    subst e; subst hs
    have v2 := v1.go f2
    cases v2 with
    | @tup a xs _ ha ra =>
    refine .inr ⟨a, xs, rfl, SqT.of (f2.gh _ _ ha), fun hw => ?_, fun hw b hb => ?_⟩
    · have : ds.drop k = ds := by
        have hl := ra.length
        have h0 := hw.1
        rw [HT.sIx_nat] at h0
        by_cases z : k = 0
        · subst z; rfl
        · have : ds.length = 0 := by omega
          have e : ds = [] := List.eq_nil_of_length_eq_zero this
          subst e; simp
      rw [this] at p
      exact q _ G2 H2 _ (f1.trans f2) (vd (Rp.tup ha ra)) p
    · rw [cut_from]
      have c := (S.cur.trans f1).trans f2
      have f3 := W.new (o := .tup (xs.drop k)) c hb
      exact q _ _ _ _ ((f1.trans f2).trans f3) (vd (Rp.tup upd_same ((ra.drop k).mono f3.gg))) p
/-- xs[::-1] -/
theorem evf_rev (h : EvP W te ρ fun s => ∃ ds, LsS s ds ∧ PL ds.reverse) : EvF W (tRevL K te) ρ PL := fun σ G H S Q q =>
  h σ G H S _ fun x G1 H1 s f1 v1 ⟨ds, hs, p⟩ => by
    obtain ⟨a, xs, rfl, ha, ra⟩ := hs.get v1 f1.gh
    refine ⟨a, xs, rfl, SqL.of ha, fun b hb => ?_⟩
    have c := S.cur.trans f1
    exact q b _ G1 _ _ (f1.trans (W.newH c hb)) (f1.fr b hb) (fresh_g c.gh hb) upd_same ra.reverse p
end

/-! ### built-ins -/
def cLen (K : PySem.W.Frag) : List V → Hp → VK → Prop := fun xs H Q => ∃ p ys, xs = [.ref p] ∧ (SqL K H p ys ∨ SqT K H p ys) ∧ Q (.int ys.length) H
theorem call_cLen {X : Cx} : CallR X (.builtin "len") (cLen X.K) := call_len_seq
def cLst (K : PySem.W.Frag) : List V → Hp → VK → Prop := fun xs H Q => ∃ p ys, xs = [.ref p] ∧ (SqL K H p ys ∨ SqT K H p ys) ∧ ∀ l, H l = none → Q (.ref l) (upd H l (.lst ys))
theorem call_cLst {X : Cx} : CallR X (.type "list") (cLst X.K) := call_list_of
def cTup (K : PySem.W.Frag) : List V → Hp → VK → Prop := fun xs H Q => ∃ p ys, xs = [.ref p] ∧ ((SqL K H p ys ∧ ∀ l, H l = none → Q (.ref l) (upd H l (.tup ys))) ∨ (SqT K H p ys ∧ Q (.ref p) H))
theorem call_cTup {X : Cx} : CallR X (.type "tuple") (cTup X.K) := call_tuple_of
def cMin : List V → Hp → VK → Prop := fun xs H Q => ∃ i j, xs = [.int i, .int j] ∧ Q (.int (if j < i then j else i)) H
theorem call_cMin {X : Cx} (hc : X.calm = true) : CallR X (.builtin "min") cMin := call_min2 hc
def cInt : List V → Hp → VK → Prop := fun xs H Q => (∃ i, xs = [.int i] ∧ Q (.int i) H) ∨ ∃ k, xs = [.bl k] ∧ Q (.int (if k then 1 else 0)) H
theorem call_cInt {X : Cx} : CallR X (.type "int") cInt := call_int1
def cAbs : List V → Hp → VK → Prop := fun xs H Q => ∃ i, xs = [.int i] ∧ Q (.int (if i < 0 then -i else i)) H
theorem call_cAbs {X : Cx} : CallR X (.builtin "abs") cAbs := call_abs
section
variable {W : Wd} {ρ : List Slot} {K : PySem.W.Frag} {P : Slot → Prop} {PL : List DD → Prop} {s : Slot} {ds es : List DD} {d : DD}
theorem pair1 {G H : Hp} {xs : List V} (h : Paired (VOk W G H) xs [s]) : ∃ x, xs = [x] ∧ VOk W G H x s := by
  cases h with
  | cons h1 h2 => cases h2; exact ⟨_, rfl, h1⟩
theorem pair2 {t : Slot} {G H : Hp} {xs : List V} (h : Paired (VOk W G H) xs [s, t]) : ∃ x y, xs = [x, y] ∧ VOk W G H x s ∧ VOk W G H y t := by
  cases h with
  | cons h1 h2 =>
    cases h2 with
    | cons h3 h4 => cases h4; exact ⟨_, _, rfl, h1, h3⟩
theorem cap_len (hs : SeqS s ds) (k : P (.dat (.int (ds.length : Int)))) : CaP W (cLen K) [s] P := fun G H xs c v Q q => by
  obtain ⟨x, rfl, v1⟩ := pair1 v
  obtain ⟨a, ys, rfl, h1, r1⟩ := hs.get (K := K) v1 c.gh
  exact ⟨a, ys, rfl, h1, q _ G H _ (Fr.self c) (vd (by rw [r1.length]; exact Rp.int _)) k⟩
theorem caf_list (hs : SeqS s ds) (k : PL ds) : CaF W (cLst K) [s] PL := fun G H xs c v Q q => by
  obtain ⟨x, rfl, v1⟩ := pair1 v
  obtain ⟨a, ys, rfl, h1, r1⟩ := hs.get (K := K) v1 c.gh
  exact ⟨a, ys, rfl, h1, fun l hl => q l ys G _ ds (W.newH c hl) hl (fresh_g c.gh hl) upd_same r1 k⟩
theorem cap_tuple (hs : SeqS s ds) (k : P (.dat (.tup ds))) : CaP W (cTup K) [s] P := fun G H xs c v Q q => by
  obtain ⟨x, rfl, v1⟩ := pair1 v
  cases hs with
  | tup =>
    cases v1 with
    | tup h1 h2 => exact ⟨_, _, rfl, .inr ⟨SqT.of (c.gh _ _ h1), q _ G H _ (Fr.self c) (vd (Rp.tup h1 h2)) k⟩⟩
  | lst =>
    cases v1 with
    | @lst b zs _ h1 h2 =>
      refine ⟨_, _, rfl, .inl ⟨SqL.of (c.gh _ _ h1), fun l hl => ?_⟩⟩
      have f := W.new (o := .tup zs) c hl
      exact q _ _ _ _ f (vd (Rp.tup upd_same (h2.mono f.gg))) k
  | seq m =>
    obtain ⟨a, ys, rfl, h1, _, _, _, _, h6⟩ := v1
    refine ⟨_, _, rfl, .inl ⟨SqL.of h1, fun l hl => ?_⟩⟩
    have f := W.new (o := .tup ys) c hl
    exact q _ _ _ _ f (vd (Rp.tup upd_same (h6.mono f.gg))) k
theorem cap_min {i j : Int} (k : P (.dat (.int (if j < i then j else i)))) : CaP W cMin [.dat (.int i), .dat (.int j)] P := fun G H xs c v Q q => by
  obtain ⟨x, y, rfl, v1, v2⟩ := pair2 v
  cases v1; cases v2
  exact ⟨i, j, rfl, q _ G H _ (Fr.self c) (vd (Rp.int _)) k⟩
theorem cap_int {i : Int} (k : P (.dat (.int i))) : CaP W cInt [.dat (.int i)] P := fun G H xs c v Q q => by
  obtain ⟨x, rfl, v1⟩ := pair1 v
  cases v1
  exact .inl ⟨i, rfl, q _ G H _ (Fr.self c) (vd (Rp.int _)) k⟩
theorem cap_abs {i : Int} (k : P (.dat (.int (if i < 0 then -i else i)))) : CaP W cAbs [.dat (.int i)] P := fun G H xs c v Q q => by
  obtain ⟨x, rfl, v1⟩ := pair1 v
  cases v1
  exact ⟨i, rfl, q _ G H _ (Fr.self c) (vd (Rp.int _)) k⟩
theorem cap_sum {ns : List Int} (hs : LsS s (ns.map .int)) (k : P (.dat (.int ns.sum))) : CaP W (rSum K) [s] P := fun G H xs c v Q q => by
  obtain ⟨x, rfl, v1⟩ := pair1 v
  obtain ⟨a, ys, rfl, h1, r1⟩ := hs.get v1 c.gh
  have e := r1.ints
  subst e
  exact ⟨a, ns, rfl, SqL.of h1, q _ G H _ (Fr.self c) (vd (Rp.int _)) k⟩
theorem cap_all {bs : List Bool} (hs : LsS s (bs.map .bl)) (k : P (.dat (.bl (bs.all id)))) : CaP W (rAll K) [s] P := fun G H xs c v Q q => by
  obtain ⟨x, rfl, v1⟩ := pair1 v
  obtain ⟨a, ys, rfl, h1, r1⟩ := hs.get v1 c.gh
  have e := r1.bls
  subst e
  exact ⟨a, bs, rfl, SqL.of h1, q _ G H _ (Fr.self c) (vd (Rp.bl _)) k⟩
theorem inV_ints (i : Int) : ∀ ns : List Int, inV (.int i) (ns.map V.int) = decide (i ∈ ns)
  | [] => rfl
  | n :: ns => by
    have ih := inV_ints i ns
    unfold inV at ih ⊢
    rw [List.map_cons, List.any_cons, ih]
    show (n == i || decide (i ∈ ns)) = decide (i ∈ n :: ns)
    by_cases h : n = i
    · subst h; simp
    · have h' : ¬ i = n := fun z => h z.symm
      simp [h, h']
theorem flat_ints : ∀ ns : List Int, (ns.map V.int).all flatV = true
  | [] => rfl
  | n :: ns => by rw [List.map_cons, List.all_cons, flat_ints ns]; rfl
theorem opp_in {i : Int} {ns : List Int} (hs : SeqS s (ns.map .int)) (k : P (.dat (.bl (decide (i ∈ ns))))) : OpP W (rIn K false) (.dat (.int i)) s P := fun G H x y c vx vy Q q => by
  cases vx
  obtain ⟨a, ys, rfl, h1, r1⟩ := hs.get (K := K) vy c.gh
  have e := r1.ints
  subst e
  refine ⟨a, _, rfl, h1, rfl, flat_ints ns, ?_⟩
  rw [if_neg Bool.false_ne_true, inV_ints]
  exact q _ G H _ (Fr.self c) (vd (Rp.bl _)) k
theorem opp_nin {i : Int} {ns : List Int} (hs : SeqS s (ns.map .int)) (k : P (.dat (.bl (!decide (i ∈ ns))))) : OpP W (rIn K true) (.dat (.int i)) s P := fun G H x y c vx vy Q q => by
  cases vx
  obtain ⟨a, ys, rfl, h1, r1⟩ := hs.get (K := K) vy c.gh
  have e := r1.ints
  subst e
  refine ⟨a, _, rfl, h1, rfl, flat_ints ns, ?_⟩
  rw [if_pos rfl, inV_ints]
  exact q _ G H _ (Fr.self c) (vd (Rp.bl _)) k
end

/-! ### targets -/
def GaP (W : Wd) (g : TG) (vs : List Nat) (s : Slot) (ρ : List Slot) (P : List Slot → Prop) : Prop := ∀ σ G H x, St W G H σ ρ → VOk W G H x s → ∀ Q : L2.St → Hp → Prop,
  (∀ σ' ρ', St W G H σ' ρ' → (σ'.length = σ.length ∧ ∀ j, j ∉ vs → σ'[j]? = σ[j]?) → P ρ' → Q σ' H) → g x σ H Q
def GasP (W : Wd) (g : TGs) (vs : List Nat) (ds : List DD) (ρ : List Slot) (P : List Slot → Prop) : Prop := ∀ σ G H xs, St W G H σ ρ → RpAll G xs ds → ∀ Q : L2.St → Hp → Prop,
  (∀ σ' ρ', St W G H σ' ρ' → (σ'.length = σ.length ∧ ∀ j, j ∉ vs → σ'[j]? = σ[j]?) → P ρ' → Q σ' H) → g xs σ H Q
section
variable {W : Wd} {ρ : List Slot} {K : PySem.W.Frag} {P : List Slot → Prop} {vs : List Nat} {d : DD} {ds : List DD} {g : TG} {gs : TGs} {i n : Nat}
theorem gap_name (hi : i ∈ vs) (k : P (ρ.set i (.dat d))) : GaP W (gName i) vs (.dat d) ρ P := fun σ G H x S v Q q =>
  q _ _ (S.set v) ⟨by simp, fun j hj => List.getElem?_set_ne (fun z => hj (by rw [← z]; exact hi))⟩ k
theorem gas_nil (k : P ρ) : GasP W gNil vs [] ρ P := fun σ G H xs S v Q q => by
  cases v
  exact ⟨rfl, q σ ρ S ⟨rfl, fun _ _ => rfl⟩ k⟩
theorem gas_cons (h : GaP W g vs (.dat d) ρ fun ρ1 => GasP W gs vs ds ρ1 P) : GasP W (gCons g gs) vs (d :: ds) ρ P := fun σ G H xs S v Q q => by
  cases v with
  | cons v1 v2 =>
    refine ⟨_, _, rfl, h σ G H _ S v1 _ fun σ1 ρ1 S1 e1 h1 => h1 σ1 G H _ S1 v2 Q fun σ2 ρ2 S2 e2 p => q σ2 ρ2 S2 ⟨e2.1.trans e1.1, fun j hj => (e2.2 j hj).trans (e1.2 j hj)⟩ p⟩
theorem gap_tup (hn : ds.length = n) (h : GasP W gs vs ds ρ P) : GaP W (gTup K n gs) vs (.dat (.tup ds)) ρ P := fun σ G H x S v Q q => by
  cases v with
  | @tup a xs _ h1 h2 => exact ⟨a, xs, rfl, SqT.of (S.cur.gh _ _ h1), h2.length.trans hn, h σ G H xs S h2 Q q⟩
end

/-! ### statements -/
structure DE where
  nx : List Slot → Prop
  rt : DD → Prop
  bk : List Slot → Prop := fun _ => False
  ct : List Slot → Prop := fun _ => False
structure Fits (W : Wd) (B : Hp) (E : DE) (D : Ends) : Prop where
  nx : ∀ σ G H ρ, St W G H σ ρ → Same B G → E.nx ρ → D.nx σ H
  rt : ∀ x G H d, W.Cur G H → Rp G x d → E.rt d → D.rt x H
  bk : ∀ σ G H ρ, St W G H σ ρ → Same B G → E.bk ρ → D.bk σ H
  ct : ∀ σ G H ρ, St W G H σ ρ → Same B G → E.ct ρ → D.ct σ H
theorem Fits.on {W : Wd} {B B' : Hp} {E : DE} {D : Ends} (F : Fits W B E D) (g : Same B B') : Fits W B' E D :=
  ⟨fun σ G H ρ S h => F.nx σ G H ρ S (g.trans h), F.rt, fun σ G H ρ S h => F.bk σ G H ρ S (g.trans h), fun σ G H ρ S h => F.ct σ G H ρ S (g.trans h)⟩
def SD (W : Wd) (t : TS) (ρ : List Slot) (E : DE) : Prop := ∀ σ G H, St W G H σ ρ → ∀ D : Ends, Fits W G E D → t D σ H
section
variable {W : Wd} {ρ : List Slot} {K : PySem.W.Frag} {E : DE} {t u : TS} {te ta : TE} {c : TT} {i : Nat}
theorem sd_seq (h : SD W t ρ { E with nx := fun ρ1 => SD W u ρ1 E }) : SD W (tSeq t u) ρ E := fun σ G H S D F =>
  h σ G H S { D with nx := u D } ⟨fun σ1 G1 H1 ρ1 S1 g k => k σ1 G1 H1 S1 D (F.on g), F.rt, F.bk, F.ct⟩
theorem sd_next (k : E.nx ρ) : SD W tNext ρ E := fun σ G H S D F => F.nx σ G H ρ S (Same.refl G) k
theorem sd_asg {g : TG} (h : EvP W te ρ fun s => GaP W g [i] s ρ E.nx) : SD W (tAsg te g) ρ E := fun σ G H S D F =>
  h σ G H S _ fun x G1 H1 s f1 v1 h1 => h1 σ G1 H1 x (S.go f1) v1 _ fun σ2 ρ2 S2 _ p => F.nx σ2 G1 H1 ρ2 S2 f1.gg p
/-- x = e -/
theorem sd_set (h : EvP W te ρ fun s => ∃ d, s = .dat d ∧ E.nx (ρ.set i (.dat d))) : SD W (tAsg te (gName i)) ρ E := fun σ G H S D F =>
  h σ G H S _ fun x G1 H1 s f1 v1 ⟨d, e, p⟩ => by
    subst e
    exact F.nx _ G1 H1 _ ((S.go f1).set v1) f1.gg p
/-- a, b, .. = e -/
theorem sd_asgT {g : TG} {vs : List Nat} (h : EvP W te ρ fun s => GaP W g vs s ρ E.nx) : SD W (tAsg te g) ρ E := fun σ G H S D F =>
  h σ G H S _ fun x G1 H1 s f1 v1 h1 => h1 σ G1 H1 x (S.go f1) v1 _ fun σ2 ρ2 S2 _ p => F.nx σ2 G1 H1 ρ2 S2 f1.gg p
/-- a list of the def's own at a slot -/
theorem St.setOwn {G H : Hp} {σ : L2.St} {p : Addr} {xs : List V} {ds : List DD} (S : St W G H σ ρ) (h2 : H p = some (.lst xs)) (gp : G p = none) (h0 : W.H0 p = none) (mp : ¬ W.M p) (ra : RpAll G xs ds)
    (new : ∀ (j : Nat) (m : Md) (es : List DD), ρ[j]? = some (.seq m es) → σ[j]? ≠ some (some (.ref p))) : St W G H (σ.set i (some (.ref p))) (ρ.set i (.seq .own ds)) := by
  refine ⟨S.cur, by simp [S.len], fun j s e n => ?_, fun a b m es fs l hab ha hb sa sb => ?_⟩
  · by_cases hj : i = j
    · subst hj
      have hl : i < ρ.length := by
        have := (List.getElem?_eq_some_iff.mp e).1
        simpa using this
      rw [List.getElem?_set_self hl] at e
      cases e
      exact ⟨_, by rw [List.getElem?_set_self (by rw [S.len]; exact hl)], p, xs, rfl, h2, gp, mp, fun _ => h0, (fun z => by cases z), ra⟩
    · rw [List.getElem?_set_ne hj] at e
      obtain ⟨y, h1, h2⟩ := S.sl j s e n
      exact ⟨y, by rw [List.getElem?_set_ne hj]; exact h1, h2⟩
  · by_cases ia : i = a
    · subst ia
      have hl : i < ρ.length := by
        have := (List.getElem?_eq_some_iff.mp ha).1
        simpa using this
      rw [List.getElem?_set_self (by rw [S.len]; exact hl)] at sa
      cases sa
      rw [List.getElem?_set_ne hab] at hb sb
      exact new b m fs hb sb
    · by_cases ib : i = b
      · subst ib
        have hl : i < ρ.length := by
          have := (List.getElem?_eq_some_iff.mp hb).1
          simpa using this
        rw [List.getElem?_set_self (by rw [S.len]; exact hl)] at sb
        cases sb
        rw [List.getElem?_set_ne ia] at ha sa
        exact new a .own es ha sa
      · rw [List.getElem?_set_ne ia] at ha sa
        rw [List.getElem?_set_ne ib] at hb sb
        exact S.ap a b m es fs l hab ha hb sa sb
theorem sd_own (h : EvF W te ρ fun ds => E.nx (ρ.set i (.seq .own ds))) : SD W (tAsg te (gName i)) ρ E := fun σ G H S D F =>
  h σ G H S _ fun p xs G2 H2 ds f hp gp h2 ra k => by
    have S2 := S.go f
    refine F.nx _ G2 H2 _ (S2.setOwn (i := i) h2 gp (S.cur.fr p hp) (W.nm S.cur hp) ra fun j m es hj hs => ?_) f.gg k
    obtain ⟨x, e1, l, ys, e2, e3, _⟩ := S.sl j _ hj (fun z => by cases z)
    rw [hs] at e1; cases e1; cases e2
    rw [hp] at e3; cases e3
theorem sd_if (h : EvT W c ρ fun b => (b = true → SD W t ρ E) ∧ (b = false → SD W u ρ E)) : SD W (tIfS c t u) ρ E := fun σ G H S D F =>
  h σ G H S _ fun b G1 H1 f1 ⟨h1, h2⟩ => by
    cases b with
    | true => exact h1 rfl σ G1 H1 (S.go f1) D (F.on f1.gg)
    | false => exact h2 rfl σ G1 H1 (S.go f1) D (F.on f1.gg)
theorem sd_ret (h : EvP W te ρ fun s => ∃ d, s = .dat d ∧ E.rt d) : SD W (tRet te) ρ E := fun σ G H S D F =>
  h σ G H S _ fun x G1 H1 s f1 v1 ⟨d, e, p⟩ => by
    subst e
    exact F.rt x G1 H1 d (S.cur.trans f1) v1 p
/-- return of a list of the def's own -/
theorem sd_retOwn {m : Md} {ds : List DD} (h : ρ[i]? = some (.seq .own ds)) (k : E.rt (.lst ds)) : SD W (tRet (tVar i)) ρ E := fun σ G H S D F => by
  obtain ⟨x, h1, l, xs, rfl, h2, h3, h4, h5, _, h6⟩ := S.sl i _ h (fun z => by cases z)
  refine ⟨_, h1, ?_⟩
  have f := S.cur.settle (p := l) (o := .lst xs) (h5 rfl) h3 h2
  exact F.rt _ _ H _ f (Rp.lst upd_same (h6.mono fun a u e => by
    have : a ≠ l := fun z => by subst z; rw [h3] at e; cases e
    rw [upd_ne this]; exact e)) k
theorem sd_retN (k : E.rt .non) : SD W tRetN ρ E := fun σ G H S D F => F.rt _ G H _ S.cur .non k
theorem sd_drop (h : EvP W te ρ fun _ => E.nx ρ) : SD W (tDrop te) ρ E := fun σ G H S D F =>
  h σ G H S _ fun x G1 H1 s f1 v1 p => F.nx σ G1 H1 ρ (S.go f1) f1.gg p
theorem St.upd {G H : Hp} {σ : L2.St} {ds es : List DD} {l : Addr} {xs ys : List V} (S : St W G H σ ρ) (h : ρ[i]? = some (.seq .own ds)) (hs : σ[i]? = some (some (.ref l))) (h2 : H l = some (.lst xs)) (h3 : G l = none) (h4 : ¬ W.M l) (h5 : W.H0 l = none)
    (ra : RpAll G ys es) : St W G (L2.upd H l (.lst ys)) σ (ρ.set i (.seq .own es)) := by
  have hl : i < ρ.length := (List.getElem?_eq_some_iff.mp h).1
  refine ⟨S.cur.mut h5 h3 h4, by simp [S.len], fun j s e n => ?_, fun a b m es' fs l' hab ha hb sa sb => ?_⟩
  · by_cases hj : i = j
    · subst hj
      rw [List.getElem?_set_self hl] at e
      cases e
      exact ⟨_, hs, l, ys, rfl, upd_same, h3, h4, fun _ => h5, (fun z => by cases z), ra⟩
    · rw [List.getElem?_set_ne hj] at e
      obtain ⟨y, h1, v⟩ := S.sl j s e n
      refine ⟨y, h1, ?_⟩
      cases s with
      | no => exact absurd rfl n
      | dat d => exact v
      | seq m fs =>
        obtain ⟨l2, zs, rfl, b1, b2, b3, b4, b5, b6⟩ := v
        have ne : l2 ≠ l := fun z => by
          subst z
          exact S.ap i j m ds fs l2 hj h e hs h1
        exact ⟨l2, zs, rfl, by rw [upd_ne ne]; exact b1, b2, b3, b4, b5, b6⟩
  · by_cases ia : i = a
    · subst ia
      rw [hs] at sa; cases sa
      rw [List.getElem?_set_ne hab] at hb
      exact S.ap i b m ds fs l hab h hb hs sb
    · by_cases ib : i = b
      · subst ib
        rw [hs] at sb; cases sb
        rw [List.getElem?_set_ne ia] at ha
        exact S.ap a i .own es' ds l (fun z => ia z.symm) ha h sa hs
      · rw [List.getElem?_set_ne ia] at ha
        rw [List.getElem?_set_ne ib] at hb
        exact S.ap a b m es' fs l' hab ha hb sa sb
/-- xs.append(e), xs a list of the def's own -/
theorem sd_app {ds : List DD} (hi : ρ[i]? = some (.seq .own ds)) (hz : ds.length < 100000) (h : EvP W te ρ fun s => ∃ d, s = .dat d ∧ E.nx (ρ.set i (.seq .own (ds ++ [d])))) :
    SD W (tDrop (tBM K "list" rAppend (tVar i) (tCons te tNil))) ρ E := fun σ G H S D F => by
  obtain ⟨x, h1, l, xs, rfl, h2, h3, h4, h5, _, h6⟩ := S.sl i _ hi (fun z => by cases z)
  refine ⟨_, h1, .inl ⟨rfl, xs, SqL.of h2⟩, ?_⟩
  refine h σ G H S _ fun y G1 H1 s f1 v1 ⟨d, e, p⟩ => ?_
  subst e
  have h2' := f1.keep l _ h4 h2
  have h3' := f1.dom l (by rw [h2]; exact fun z => nomatch z) h3
  refine ⟨l, xs, y, rfl, rfl, h2', by rw [h6.length]; exact sz_lt hz, ?_⟩
  exact F.nx _ G1 _ _ ((S.go f1).upd hi h1 h2' h3' h4 (h5 rfl) ((h6.mono f1.gg).snoc v1)) f1.gg p
/-- xs.pop() -/
theorem sd_pop {ds : List DD} {d : DD} (hi : ρ[i]? = some (.seq .own (ds ++ [d]))) (k : E.nx (ρ.set i (.seq .own ds))) :
    SD W (tDrop (tBM0 K "list" rPop (tVar i))) ρ E := fun σ G H S D F => by
  obtain ⟨x, h1, l, xs, rfl, h2, h3, h4, h5, _, h6⟩ := S.sl i _ hi (fun z => by cases z)
  refine ⟨_, h1, .inl ⟨rfl, xs, SqL.of h2⟩, ?_⟩
  have hl := h6.length
  rw [List.length_append, List.length_singleton] at hl
  obtain ⟨v, hv, rv⟩ := h6.get (i := ds.length) (d := d) (by simp)
  refine ⟨l, xs, v, rfl, rfl, h2, by rw [hl]; exact hv, ?_⟩
  have r := h6.dropLast
  rw [List.dropLast_concat] at r
  exact F.nx _ G _ _ (S.upd hi h1 h2 h3 h4 (h5 rfl) r) (Same.refl G) k
/-- xs.extend(e), e a new list -/
theorem sd_ext {ds : List DD} (hi : ρ[i]? = some (.seq .own ds)) (h : EvF W te ρ fun es => ds.length + es.length ≤ 100000 ∧ E.nx (ρ.set i (.seq .own (ds ++ es)))) :
    SD W (tDrop (tBM K "list" rExtend (tVar i) (tCons te tNil))) ρ E := fun σ G H S D F => by
  obtain ⟨x, h1, l, xs, rfl, h2, h3, h4, h5, _, h6⟩ := S.sl i _ hi (fun z => by cases z)
  refine ⟨_, h1, .inl ⟨rfl, xs, SqL.of h2⟩, ?_⟩
  refine h σ G H S _ fun p ys G1 H1 es f1 hp gp hy ra ⟨hz, k⟩ => ?_
  have h2' := f1.keep l _ h4 h2
  have h3' := f1.dom l (by rw [h2]; exact fun z => nomatch z) h3
  refine ⟨l, p, xs, ys, rfl, rfl, h2', hy, by rw [h6.length, ra.length]; exact sz_le hz, ?_⟩
  exact F.nx _ G1 _ _ ((S.go f1).upd hi h1 h2' h3' h4 (h5 rfl) ((h6.mono f1.gg).append ra)) f1.gg k
/-- xs.clear() -/
theorem sd_clear {ds : List DD} (hi : ρ[i]? = some (.seq .own ds)) (k : E.nx (ρ.set i (.seq .own []))) :
    SD W (tDrop (tBM0 K "list" rClear (tVar i))) ρ E := fun σ G H S D F => by
  obtain ⟨x, h1, l, xs, rfl, h2, h3, h4, h5, _, h6⟩ := S.sl i _ hi (fun z => by cases z)
  exact ⟨_, h1, .inl ⟨rfl, xs, SqL.of h2⟩, l, xs, rfl, rfl, h2, F.nx _ G _ _ (S.upd hi h1 h2 h3 h4 (h5 rfl) .nil) (Same.refl G) k⟩
end
end Dl

set_option Elab.async false
set_option linter.all false
set_option maxRecDepth 100000
set_option maxHeartbeats 1000000
/-! D4: loops, comprehensions, over data. -/
namespace Dl
open PySem L2

theorem Wd.gm {W : Wd} {G H : Hp} {a : Addr} (c : W.Cur G H) (m : W.M a) : G a = none := c.dom a (W.jm W.H0 a W.j0 m) (W.mg a m)
/-- an iterator gives the data y 0 .. y (n - 1) wherever L holds -/
structure IsW (W : Wd) (L : Hp → Hp → Prop) (J : It) (n : Nat) (y : Nat → DD) : Prop where
  goes : ∀ i G H, i < n → W.Cur G H → L G H → J.go i H
  stops : ∀ G H, W.Cur G H → L G H → J.stop n H
  yields : ∀ i G H x H', i < n → W.Cur G H → L G H → J.yld i H x H' → ∃ G', W.Go G H G' H' ∧ Rp G' x (y i)
/-- what a comprehension walks; what a for walks -/
def WiP (W : Wd) (wi : TI) (ρ : List Slot) (P : Nat → (Nat → DD) → Prop) : Prop := ∀ σ G H, St W G H σ ρ → ∀ R : It → Hp → Prop,
  (∀ J G2 H2 n y L, W.Go G H G2 H2 → L G2 H2 → IsW W L J n y → (∀ G H G' H', L G H → W.Go G H G' H' → L G' H') → P n y → R J H2) → wi σ H R
def WfP (W : Wd) (wi : TI) (ρ : List Slot) (P : Nat → (Nat → DD) → Prop) : Prop := ∀ σ G H, St W G H σ ρ → ∀ R : It → Hp → Prop,
  (∀ J G2 H2 n y L, W.Go G H G2 H2 → L G2 H2 → IsW W L J n y → (∀ G H G' H', L G H → W.Cur G' H' → Same G G' → L G' H') → P n y → R J H2) → wi σ H R
theorem WfP.comp {W : Wd} {wi : TI} {ρ : List Slot} {P : Nat → (Nat → DD) → Prop} (h : WfP W wi ρ P) (hc : ∀ σ G H, St W G H σ ρ → True) : WiP W wi ρ P := fun σ G H S R k =>
  h σ G H S R fun J G2 H2 n y L f l w st p => by
    refine k J G2 H2 n y (fun G' H' => L G' H' ∧ W.Cur G' H') f ⟨l, S.cur.trans f⟩ ⟨fun i G H hi c l => w.goes i G H hi c l.1, fun G H c l => w.stops G H c l.1, fun i G H x H' hi c l y => w.yields i G H x H' hi c l.1 y⟩
      (fun G H G' H' l f => ⟨st G H G' H' l.1 (l.2.trans f) f.gg, l.2.trans f⟩) p
def itemsOf (ds : List DD) (i : Nat) : DD := ds.getD i .non
theorem itemsOf_eq {ds : List DD} {i : Nat} {d : DD} (h : ds[i]? = some d) : itemsOf ds i = d := by
  unfold itemsOf
  rw [List.getD_eq_getElem?_getD, h]; rfl
theorem itemsOf_lt {ds : List DD} {i : Nat} (h : i < ds.length) : ds[i]? = some (itemsOf ds i) := by
  unfold itemsOf
  rw [List.getD_eq_getElem?_getD, List.getElem?_eq_getElem h]; rfl

section
variable {W : Wd} {K : PySem.W.Frag} {a : Addr} {xs : List V} {ds : List DD}
theorem isw_list (L : Hp → Hp → Prop) (hl : ∀ G H, W.Cur G H → L G H → ∃ xs, H a = some (.lst xs) ∧ RpAll G xs ds) : IsW W L (Itl K a) ds.length (itemsOf ds) where
  goes := fun i G H hi c l => by
    obtain ⟨xs, h1, h2⟩ := hl G H c l
    obtain ⟨x, hx, _⟩ := h2.get (itemsOf_lt hi)
    exact ⟨xs, x, SqL.of h1, hx⟩
  stops := fun G H c l => by
    obtain ⟨xs, h1, h2⟩ := hl G H c l
    exact ⟨xs, SqL.of h1, Nat.le_of_eq h2.length⟩
  yields := fun i G H x H' hi c l y => by
    obtain ⟨xs, h1, h2⟩ := hl G H c l
    obtain ⟨e, y⟩ := y
    subst e
    obtain ⟨d, hd, rd⟩ := h2.getV (y xs (SqL.of h1))
    exact ⟨G, Fr.self c, by rw [itemsOf_eq hd]; exact rd⟩
theorem isw_tup (L : Hp → Hp → Prop) (hl : ∀ G H, W.Cur G H → L G H → ∃ xs, H a = some (.tup xs) ∧ RpAll G xs ds) : IsW W L (Itt K a) ds.length (itemsOf ds) where
  goes := fun i G H hi c l => by
    obtain ⟨xs, h1, h2⟩ := hl G H c l
    obtain ⟨x, hx, _⟩ := h2.get (itemsOf_lt hi)
    exact ⟨xs, x, SqT.of h1, hx⟩
  stops := fun G H c l => by
    obtain ⟨xs, h1, h2⟩ := hl G H c l
    exact ⟨xs, SqT.of h1, Nat.le_of_eq h2.length⟩
  yields := fun i G H x H' hi c l y => by
    obtain ⟨xs, h1, h2⟩ := hl G H c l
    obtain ⟨e, y⟩ := y
    subst e
    obtain ⟨d, hd, rd⟩ := h2.getV (y xs (SqT.of h1))
    exact ⟨G, Fr.self c, by rw [itemsOf_eq hd]; exact rd⟩
theorem isw_range {lo : Int} {n : Nat} : IsW W (fun _ _ => True) (Itr lo n) n (fun i => .int (lo + (i : Nat))) where
  goes := fun i G H hi c l => hi
  stops := fun G H c l => Nat.le_refl n
  yields := fun i G H x H' hi c l y => by
    obtain ⟨e, y⟩ := y
    subst e; subst y
    exact ⟨G, Fr.self c, .int _⟩
end

/-! what may be walked: a list or a tuple of data (for, comprehension), a list that is lent (both), the def's own list (comprehension) -/
/-- where a list's items are to be found -/
def LsAt (W : Wd) (a : Addr) (ds : List DD) : Hp → Hp → Prop := fun G H =>
  (∃ xs, G a = some (.lst xs) ∧ RpAll G xs ds) ∨ (∃ xs, W.H0 a = some (.lst xs) ∧ ¬ W.M a ∧ RpAll G xs ds)
def LvAt (W : Wd) (a : Addr) (ds : List DD) : Hp → Hp → Prop := fun G H => ∃ xs, H a = some (.lst xs) ∧ ¬ W.M a ∧ RpAll G xs ds
def TsAt (a : Addr) (ds : List DD) : Hp → Hp → Prop := fun G H => ∃ xs, G a = some (.tup xs) ∧ RpAll G xs ds
section
variable {W : Wd} {ρ : List Slot} {K : PySem.W.Frag} {te : TE} {s : Slot} {ds : List DD} {a : Addr}
theorem LsAt.items {G H : Hp} (c : W.Cur G H) (h : LsAt W a ds G H) : ∃ xs, H a = some (.lst xs) ∧ RpAll G xs ds := by
  rcases h with ⟨xs, h1, h2⟩ | ⟨xs, h1, h2, h3⟩
  · exact ⟨xs, c.gh _ _ h1, h2⟩
  · exact ⟨xs, c.keep _ _ h2 h1, h3⟩
theorem LsAt.on {G H G' H' : Hp} (h : LsAt W a ds G H) (g : Same G G') : LsAt W a ds G' H' := by
  rcases h with ⟨xs, h1, h2⟩ | ⟨xs, h1, h2, h3⟩
  · exact .inl ⟨xs, g _ _ h1, h2.mono g⟩
  · exact .inr ⟨xs, h1, h2, h3.mono g⟩
inductive LentS : Slot → List DD → Prop
  | lst (ds : List DD) : LentS (.dat (.lst ds)) ds
  | seq (ds : List DD) : LentS (.seq .lent ds) ds
theorem LentS.at {G H : Hp} {x : V} (h : LentS s ds) (v : VOk W G H x s) (c : W.Cur G H) : ∃ a, x = .ref a ∧ LsAt W a ds G H := by
  cases h with
  | lst =>
    cases v with
    | lst h1 h2 => exact ⟨_, rfl, .inl ⟨_, h1, h2⟩⟩
  | seq =>
    obtain ⟨l, xs, rfl, _, _, h3, _, h5, h6⟩ := v
    exact ⟨l, rfl, .inr ⟨xs, h5 rfl, h3, h6⟩⟩
theorem LsS.at {G H : Hp} {x : V} (h : LsS s ds) (v : VOk W G H x s) (c : W.Cur G H) : ∃ a, x = .ref a ∧ LvAt W a ds G H := by
  cases h with
  | lst =>
    cases v with
    | @lst a xs _ h1 h2 =>
      have nm : ¬ W.M a := fun m => by
        rw [W.gm c m] at h1; cases h1
      exact ⟨a, rfl, xs, c.gh _ _ h1, nm, h2⟩
  | seq m =>
    obtain ⟨l, xs, rfl, h1, _, h3, _, _, h6⟩ := v
    exact ⟨l, rfl, xs, h1, h3, h6⟩
theorem wfp_list {P : Nat → (Nat → DD) → Prop} (h : EvP W te ρ fun s => ∃ ds, LentS s ds ∧ P ds.length (itemsOf ds)) : WfP W (iList K te) ρ P := fun σ G H S R k =>
  h σ G H S _ fun x G1 H1 s f1 v1 ⟨ds, hs, p⟩ => by
    have c := S.cur.trans f1
    obtain ⟨a, rfl, l⟩ := hs.at v1 c
    obtain ⟨xs, hx, _⟩ := l.items c
    refine ⟨a, rfl, ⟨xs, SqL.of hx⟩, ?_⟩
    exact k _ G1 H1 _ _ (LsAt W a ds) f1 l (isw_list _ fun G H c l => l.items c) (fun G H G' H' l _ g => l.on g) p
theorem wfp_tup {P : Nat → (Nat → DD) → Prop} (h : EvP W te ρ fun s => ∃ ds, s = .dat (.tup ds) ∧ P ds.length (itemsOf ds)) : WfP W (iTup K te) ρ P := fun σ G H S R k =>
  h σ G H S _ fun x G1 H1 s f1 v1 ⟨ds, hs, p⟩ => by
    subst hs
    cases v1 with
    | @tup a xs _ h1 h2 =>
      refine ⟨a, rfl, ⟨xs, SqT.of (f1.gh _ _ h1)⟩, ?_⟩
      exact k _ G1 H1 _ _ (TsAt a ds) f1 ⟨xs, h1, h2⟩ (isw_tup _ fun G H c ⟨xs, h1, h2⟩ => ⟨xs, c.gh _ _ h1, h2⟩) (fun G H G' H' ⟨xs, h1, h2⟩ _ g => ⟨xs, g _ _ h1, h2.mono g⟩) p
theorem wip_list {P : Nat → (Nat → DD) → Prop} (h : EvP W te ρ fun s => ∃ ds, LsS s ds ∧ P ds.length (itemsOf ds)) : WiP W (iList K te) ρ P := fun σ G H S R k =>
  h σ G H S _ fun x G1 H1 s f1 v1 ⟨ds, hs, p⟩ => by
    have c := S.cur.trans f1
    obtain ⟨a, rfl, l⟩ := hs.at v1 c
    obtain ⟨xs, hx, _⟩ := id l
    refine ⟨a, rfl, ⟨xs, SqL.of hx⟩, ?_⟩
    exact k _ G1 H1 _ _ (LvAt W a ds) f1 l (isw_list _ fun G H c ⟨xs, h1, _, h3⟩ => ⟨xs, h1, h3⟩) (fun G H G' H' ⟨xs, h1, h2, h3⟩ f => ⟨xs, f.keep _ _ h2 h1, h2, h3.mono f.gg⟩) p
theorem WfP.wip {wi : TI} {P : Nat → (Nat → DD) → Prop} (h : WfP W wi ρ P) : WiP W wi ρ P := h.comp fun _ _ _ _ => trivial
theorem wip_tup {P : Nat → (Nat → DD) → Prop} (h : EvP W te ρ fun s => ∃ ds, s = .dat (.tup ds) ∧ P ds.length (itemsOf ds)) : WiP W (iTup K te) ρ P := (wfp_tup h).wip
theorem wfp_rng1 {ta : TA} {P : Nat → (Nat → DD) → Prop} (h : EvA W ta ρ fun ss => ∃ j : Int, ss = [.dat (.int j)] ∧ -1000000 ≤ j ∧ j ≤ 1000000 ∧ P j.toNat (fun i => .int ((i : Nat) : Int))) : WfP W (iRng1 ta) ρ P := fun σ G H S R k =>
  h σ G H S _ fun xs G1 H1 ss f1 v1 ⟨j, e, h1, h2, p⟩ => by
    subst e
    obtain ⟨x, rfl, v⟩ := pair1 v1
    cases v
    refine ⟨j, rfl, by omega, by omega, ?_⟩
    refine k _ G1 H1 j.toNat (fun i => .int ((i : Nat) : Int)) (fun _ _ => True) f1 trivial ?_ (fun _ _ _ _ _ _ _ => trivial) p
    have := isw_range (W := W) (lo := 0) (n := j.toNat)
    simpa only [Int.zero_add] using this
theorem wfp_rng2 {ta : TA} {P : Nat → (Nat → DD) → Prop} (h : EvA W ta ρ fun ss => ∃ i j : Int, ss = [.dat (.int i), .dat (.int j)] ∧ (-1000000 ≤ i ∧ i ≤ 1000000 ∧ -1000000 ≤ j ∧ j ≤ 1000000) ∧ P (j - i).toNat (fun k => .int (i + (k : Nat)))) : WfP W (iRng2 ta) ρ P := fun σ G H S R k =>
  h σ G H S _ fun xs G1 H1 ss f1 v1 ⟨i, j, e, ⟨h1, h2, h3, h4⟩, p⟩ => by
    subst e
    obtain ⟨x, y, rfl, v, w⟩ := pair2 v1
    cases v; cases w
    exact ⟨i, j, rfl, ⟨by omega, by omega, by omega, by omega⟩, k _ G1 H1 _ _ (fun _ _ => True) f1 trivial isw_range (fun _ _ _ _ _ _ _ => trivial) p⟩

/-! ### for -/
theorem sd_for {E : DE} {wi : TI} {g : TG} {tb : TS} {vs : List Nat} (h : WfP W wi ρ fun n y => ∃ I : Nat → List Slot → Prop, I 0 ρ ∧
    (∀ i ρ1, i < n → I i ρ1 → GaP W g vs (.dat (y i)) ρ1 fun ρ2 => SD W tb ρ2 { nx := I (i + 1), rt := E.rt, bk := E.nx, ct := I (i + 1) }) ∧ ∀ ρ1, I n ρ1 → E.nx ρ1) : SD W (tFor wi g tb) ρ E := fun σ G H S D F =>
  h σ G H S _ fun J G1 H1 n y L f1 l1 w st ⟨I, h0, hs, hd⟩ => by
    refine ⟨fun i m σ' H' => m = n - i ∧ i ≤ n ∧ ∃ G' ρ', St W G' H' σ' ρ' ∧ Same G1 G' ∧ L G' H' ∧ I i ρ', ⟨n, by simp, Nat.zero_le _, G1, ρ, S.go f1, Same.refl G1, l1, h0⟩, ?_⟩
    rintro i m σ' H' ⟨rfl, hi, G', ρ', S', gS, l', k⟩
    by_cases hlt : i < n
    · refine .inr ⟨w.goes i G' H' hlt S'.cur l', fun σ2 H2 => ∃ G2 ρ2, St W G2 H2 σ2 ρ2 ∧ Same G1 G2 ∧ L G2 H2 ∧ I (i + 1) ρ2, fun σ2 H2 ⟨G2, ρ2, S2, g2, l2, k2⟩ => ⟨n - (i + 1), by omega, rfl, hlt, G2, ρ2, S2, g2, l2, k2⟩, fun x H2 yl => ?_⟩
      obtain ⟨G2, f2, rx⟩ := w.yields i G' H' x H2 hlt S'.cur l' yl
      have S2 := S'.go f2
      have l2 := st G' H' G2 H2 l' S2.cur f2.gg
      refine hs i ρ' hlt k σ' G2 H2 x S2 (vd rx) _ fun σ3 ρ3 S3 _ h3 => ?_
      have on : ∀ {G3 H3 : Hp} {σ4 : L2.St} {ρ4 : List Slot}, St W G3 H3 σ4 ρ4 → Same G2 G3 → L G3 H3 := fun {G3 H3 σ4 ρ4} S4 g => st G2 H2 G3 H3 l2 S4.cur g
      exact h3 σ3 G2 H2 S3 _ ⟨fun σ4 G4 H4 ρ4 S4 g k4 => ⟨G4, ρ4, S4, (gS.trans f2.gg).trans g, on S4 g, k4⟩, F.rt, fun σ4 G4 H4 ρ4 S4 g k4 => F.nx σ4 G4 H4 ρ4 S4 (((f1.gg.trans gS).trans f2.gg).trans g) k4, fun σ4 G4 H4 ρ4 S4 g k4 => ⟨G4, ρ4, S4, (gS.trans f2.gg).trans g, on S4 g, k4⟩⟩
    · have e : i = n := by omega
      subst e
      exact .inl ⟨w.stops G' H' S'.cur l', F.nx σ' G' H' ρ' S' (f1.gg.trans gS) (hd ρ' k)⟩
end
end Dl

set_option Elab.async false
set_option linter.all false
set_option maxRecDepth 100000
set_option maxHeartbeats 1000000
/-! D5: comprehensions, while, calls, defs. -/
namespace Dl
open PySem L2 PyProof.Rows

/-! ### comprehensions -/
def wipeS (ρ : List Slot) : List Nat → List Slot
  | [] => ρ
  | v :: vs => (wipeS ρ vs).set v .no
theorem wipeS_len (ρ : List Slot) : ∀ vs, (wipeS ρ vs).length = ρ.length
  | [] => rfl
  | v :: vs => by unfold wipeS; rw [List.length_set, wipeS_len ρ vs]
theorem wipeS_some {ρ : List Slot} {i : Nat} {s : Slot} (n : s ≠ .no) : ∀ {vs : List Nat}, (wipeS ρ vs)[i]? = some s → ρ[i]? = some s ∧ i ∉ vs
  | [], h => ⟨h, by simp⟩
  | v :: vs, h => by
    unfold wipeS at h
    by_cases hi : v = i
    · subst hi
      by_cases hv : v < (wipeS ρ vs).length
      · rw [List.getElem?_set_self hv] at h; cases h; exact absurd rfl n
      · rw [List.getElem?_eq_none (by simpa using hv)] at h; cases h
    · rw [List.getElem?_set_ne hi] at h
      obtain ⟨h1, h2⟩ := wipeS_some n h
      exact ⟨h1, by simp only [List.mem_cons, not_or]; exact ⟨fun e => hi e.symm, h2⟩⟩
theorem wipe_in {σ : L2.St} {j : Nat} : ∀ {vs : List Nat}, j ∈ vs → j < σ.length → (wipe σ vs)[j]? = some none
  | v :: vs, h, hl => by
    unfold wipe
    by_cases e : v = j
    · subst e
      rw [List.getElem?_set_self (by rw [wipe_length]; exact hl)]
    · rw [List.getElem?_set_ne e]
      exact wipe_in ((List.mem_cons.mp h).resolve_left fun z => e z.symm) hl
theorem wipe_eq {σ τ : L2.St} {vs : List Nat} (hl : τ.length = σ.length) (h : ∀ j, j ∉ vs → τ[j]? = (wipe σ vs)[j]?) : wipe τ vs = wipe σ vs := by
  apply List.ext_getElem?
  intro j
  by_cases hj : j ∈ vs
  · by_cases hlt : j < σ.length
    · rw [wipe_in hj hlt, wipe_in hj (by rw [hl]; exact hlt)]
    · rw [List.getElem?_eq_none (by rw [wipe_length]; omega), List.getElem?_eq_none (by rw [wipe_length]; omega)]
  · rw [wipe_out hj, h j hj]
section
variable {W : Wd} {ρ : List Slot} {K : PySem.W.Frag} {P : Slot → Prop} {PL : List DD → Prop}
theorem St.wipe {G H : Hp} {σ : L2.St} (S : St W G H σ ρ) (vs : List Nat) : St W G H (wipe σ vs) (wipeS ρ vs) := by
  refine ⟨S.cur, by rw [wipe_length, wipeS_len]; exact S.len, fun i s e n => ?_, fun i j m ds es l hij hi hj si sj => ?_⟩
  · obtain ⟨h1, h2⟩ := wipeS_some n e
    obtain ⟨x, h3, h4⟩ := S.sl i s h1 n
    exact ⟨x, by rw [wipe_out h2]; exact h3, h4⟩
  · obtain ⟨h1, h2⟩ := wipeS_some (fun z => by cases z) hi
    obtain ⟨h3, h4⟩ := wipeS_some (fun z => by cases z) hj
    rw [wipe_out h2] at si
    rw [wipe_out h4] at sj
    exact S.ap i j m ds es l hij h1 h3 si sj
theorem evt_yes {PB : Bool → Prop} (k : PB true) : EvT W tYes ρ PB := fun σ G H S Q q => q true G H S.refl k
theorem evf_lc {wi : TI} {g : TG} {tt : TT} {te : TE} {vs : List Nat} (h : WiP W wi ρ fun n y => n ≤ 50000 ∧ ∃ I : Nat → List DD → Prop, I 0 [] ∧
    (∀ i acc, i < n → I i acc → GaP W g vs (.dat (y i)) (wipeS ρ vs) fun ρ2 => EvT W tt ρ2 fun b => (b = true → EvP W te ρ2 fun s => ∃ d, s = .dat d ∧ I (i + 1) (acc ++ [d])) ∧ (b = false → I (i + 1) acc)) ∧ ∀ acc, I n acc → PL acc) :
    EvF W (tLc wi g tt te vs) ρ PL := fun σ G H S Q q =>
  h σ G H S _ fun J G1 H1 n y L f1 l1 w st ⟨hn, I, h0, hs, hd⟩ D hD => by
    have S1 := S.go f1
    have gD : G1 D = none := fresh_g f1.gh hD
    have mD : ¬ W.M D := W.nm S1.cur hD
    refine ⟨fun i m H' => m = n - i ∧ i ≤ n ∧ ∃ G' as acc, W.Go G1 H1 G' H' ∧ G' D = none ∧ H' D = some (.lst as) ∧ RpAll G' as acc ∧ acc.length ≤ i ∧ I i acc,
      ⟨n, by simp, Nat.zero_le _, G1, [], [], W.newH S1.cur hD, gD, upd_same, .nil, Nat.zero_le _, h0⟩, ?_⟩
    rintro i m H' ⟨rfl, hi, G', as, acc, f2, gD', hD', ra, hl, k⟩
    have c2 := S1.cur.trans f2
    have l2 := st G1 H1 G' H' l1 f2
    by_cases hlt : i < n
    · refine .inr ⟨w.goes i G' H' hlt c2 l2, fun H2 => ∃ G2 as acc, W.Go G1 H1 G2 H2 ∧ G2 D = none ∧ H2 D = some (.lst as) ∧ RpAll G2 as acc ∧ acc.length ≤ i + 1 ∧ I (i + 1) acc,
        fun H2 ⟨G2, as, acc, z⟩ => ⟨n - (i + 1), by omega, rfl, hlt, G2, as, acc, z⟩, fun x H2 yl => ?_⟩
      obtain ⟨G2, f3, rx⟩ := w.yields i G' H' x H2 hlt c2 l2 yl
      have S2 : St W G2 H2 (wipe σ vs) (wipeS ρ vs) := (S1.wipe vs).go (f2.trans f3)
      refine hs i acc hlt k _ G2 H2 x S2 (vd rx) _ fun σ3 ρ3 S3 e3 h3 => ⟨?_, ?_⟩
      · exact wipe_eq (e3.1.trans (wipe_length _ _)) e3.2
      · refine h3 σ3 G2 H2 S3 _ fun b G4 H4 f4 ⟨ht, hf⟩ => ?_
        have nD : H' D ≠ none := by rw [hD']; exact fun z => nomatch z
        cases b with
        | false =>
          have f := (f2.trans f3).trans f4
          exact ⟨G4, as, acc, f, (f3.trans f4).dom D nD gD', (f3.trans f4).keep D _ mD hD', ra.mono (f3.trans f4).gg, by omega, hf rfl⟩
        | true =>
          refine ht rfl σ3 G4 H4 (S3.go f4) _ fun z G5 H5 s5 f5 v5 ⟨d, e, k5⟩ => ?_
          subst e
          have f6 := (f3.trans f4).trans f5
          refine ⟨as, f6.keep D _ mD hD', ?_, G5, as ++ [z], acc ++ [d], Fr.mut (f2.trans f6) hD (f6.dom D nD gD') mD, f6.dom D nD gD', upd_same, (ra.mono f6.gg).snoc v5, by simp; omega, k5⟩
          rw [ra.length]; exact sz_lt (by omega)
    · have e : i = n := by omega
      subst e
      exact .inl ⟨w.stops G' H' c2 l2, q D as G' H' acc (f1.trans f2) (f1.fr D hD) gD' hD' ra (hd acc k)⟩
/-- one for: the kept items' values, told outright -/
theorem evf_lcm {wi : TI} {g : TG} {tt : TT} {te : TE} {vs : List Nat} (h : WiP W wi ρ fun n y => n ≤ 50000 ∧ ∃ (f : Nat → Bool) (v : Nat → DD),
    (∀ i, i < n → GaP W g vs (.dat (y i)) (wipeS ρ vs) fun ρ2 => EvT W tt ρ2 fun b => b = f i ∧ (f i = true → EvP W te ρ2 fun s => s = .dat (v i))) ∧ PL (((List.range n).filter f).map v)) :
    EvF W (tLc wi g tt te vs) ρ PL := evf_lc fun σ G H S R k => h σ G H S R fun J G1 H1 n y L f1 l1 w st ⟨hn, f, v, hs, hd⟩ => k J G1 H1 n y L f1 l1 w st ⟨hn, fun i acc => acc = ((List.range i).filter f).map v, rfl, fun i acc hi e σ' G' H' x S' vx Q q => by
      subst e
      refine hs i hi σ' G' H' x S' vx Q fun σ2 ρ2 S2 e2 p => q σ2 ρ2 S2 e2 (p.imp fun b ⟨eb, pe⟩ => ⟨fun hb => ?_, fun hb => ?_⟩)
      · have hf : f i = true := by rw [← eb]; exact hb
        refine (pe hf).imp fun s es => ⟨v i, es, ?_⟩
        show _ = ((List.range (i + 1)).filter f).map v
        rw [List.range_succ, List.filter_append, List.map_append, List.filter_cons, if_pos hf]; rfl
      · have hf : f i = false := by rw [← eb]; exact hb
        show _ = ((List.range (i + 1)).filter f).map v
        rw [List.range_succ, List.filter_append, List.map_append, List.filter_cons, if_neg (by rw [hf]; exact Bool.false_ne_true)]; simp, fun acc e => by rw [e]; exact hd⟩
/-- without a test: a map over the walked data -/
theorem evf_map {wi : TI} {g : TG} {te : TE} {vs : List Nat} (h : WiP W wi ρ fun n y => n ≤ 50000 ∧ ∃ v : Nat → DD,
    (∀ i, i < n → GaP W g vs (.dat (y i)) (wipeS ρ vs) fun ρ2 => EvP W te ρ2 fun s => s = .dat (v i)) ∧ PL ((List.range n).map v)) :
    EvF W (tLc wi g tYes te vs) ρ PL := evf_lcm fun σ G H S R k => h σ G H S R fun J G1 H1 n y L f1 l1 w st ⟨hn, v, hs, hd⟩ => k J G1 H1 n y L f1 l1 w st ⟨hn, fun _ => true, v, fun i hi σ' G' H' x S' vx Q q =>
      hs i hi σ' G' H' x S' vx Q fun σ2 ρ2 S2 e2 p => q σ2 ρ2 S2 e2 (evt_yes ⟨rfl, fun _ => p⟩), by rw [List.filter_eq_self.mpr (fun _ _ => rfl)]; exact hd⟩
/-! ### while -/
theorem sd_while {E : DE} {c : TT} {tb : TS} (I : Nat → List Slot → Prop) (m0 : Nat) (h0 : I m0 ρ) (hs : ∀ m ρ1, I m ρ1 → EvT W c ρ1 fun b =>
    (b = true → SD W tb ρ1 { nx := fun ρ2 => ∃ m', m' < m ∧ I m' ρ2, rt := E.rt, bk := E.nx, ct := fun ρ2 => ∃ m', m' < m ∧ I m' ρ2 }) ∧ (b = false → E.nx ρ1)) : SD W (tWhile c tb) ρ E := fun σ G H S D F => by
  refine ⟨fun m σ' H' => ∃ G' ρ', St W G' H' σ' ρ' ∧ Same G G' ∧ I m ρ', ⟨m0, G, ρ, S, Same.refl G, h0⟩, ?_⟩
  rintro m σ' H' ⟨G', ρ', S', g, k⟩
  refine hs m ρ' k σ' G' H' S' _ fun b G1 H1 f1 ⟨h1, h2⟩ => ?_
  cases b with
  | true =>
    rw [if_pos rfl]
    refine ⟨fun σ2 H2 => ∃ m', m' < m ∧ ∃ G2 ρ2, St W G2 H2 σ2 ρ2 ∧ Same G G2 ∧ I m' ρ2, fun σ2 H2 z => z, ?_⟩
    refine h1 rfl σ' G1 H1 (S'.go f1) _ ⟨fun σ4 G4 H4 ρ4 S4 g4 ⟨m', hm, k4⟩ => ⟨m', hm, G4, ρ4, S4, (g.trans f1.gg).trans g4, k4⟩, F.rt, fun σ4 G4 H4 ρ4 S4 g4 k4 => F.nx σ4 G4 H4 ρ4 S4 ((g.trans f1.gg).trans g4) k4,
      fun σ4 G4 H4 ρ4 S4 g4 ⟨m', hm, k4⟩ => ⟨m', hm, G4, ρ4, S4, (g.trans f1.gg).trans g4, k4⟩⟩
  | false =>
    rw [if_neg Bool.false_ne_true]
    exact F.nx σ' G1 H1 ρ' (S'.go f1) (g.trans f1.gg) (h2 rfl)
end

/-! ### promises -/
def ArgOk (M : Addr → Prop) (G H : Hp) (x : V) : Slot → Prop
  | .no => False
  | .dat d => Rp G x d
  | .seq m ds => m = .lent ∧ ∃ l xs, x = .ref l ∧ H l = some (.lst xs) ∧ G l = none ∧ ¬ M l ∧ RpAll G xs ds
abbrev ErrP := Addr → Str → DD → Prop
/-- what a def promises: C, of the arguments, of the answers, of the errors (class, field, what the field holds) -/
def spE (M : Addr → Prop) (J : Hp → Prop) (C : List Slot → (DD → Prop) → ErrP → Prop) : Sp := fun vs H Q E => ∃ G ss R RE, Same G H ∧ J H ∧ (∀ a, M a → G a = none) ∧ Paired (ArgOk M G H) vs ss ∧ C ss R RE ∧
  (∀ v G2 H2 d, Fr M J G H G2 H2 → Rp G2 v d → R d → Q v H2) ∧ ∀ cls f x dv p G2 H2, Fr M J G H G2 H2 → H2 p = some (.xd [(f, x)]) → Rp G2 x dv → RE cls f dv → E (.ref cls) (some p) H2
abbrev NoM : Addr → Prop := fun _ => False
abbrev AnyJ : Hp → Prop := fun _ => True
/-- a def that changes nothing and raises nothing -/
abbrev spP (C : List Slot → (DD → Prop) → Prop) : Sp := spE NoM AnyJ fun ss R _ => C ss R
def toArg : Slot → Slot
  | .seq _ ds => .seq .lent ds
  | s => s
def startS (N : List Str) (ss : List Slot) : List Slot := ss ++ List.replicate (N.length - ss.length) .no
section
variable {W : Wd} {ρ : List Slot} {K : PySem.W.Frag} {P : Slot → Prop}
theorem args_ok {M : Addr → Prop} {G H : Hp} (hM : ∀ a, M a → W.M a) : ∀ {xs : List V} {ss : List Slot}, Paired (VOk W G H) xs ss → (∀ s ∈ ss, s ≠ .no) → Paired (ArgOk M G H) xs (ss.map toArg)
  | _, _, .nil, _ => .nil
  | _, _, .cons (b := s) h t, n => by
    refine .cons ?_ (args_ok hM t fun s hs => n s (List.mem_cons_of_mem _ hs))
    cases s with
    | no => exact absurd rfl (n _ List.mem_cons_self)
    | dat d => exact h
    | seq m ds =>
      obtain ⟨l, ys, e, h1, h2, h3, _, _, h6⟩ := h
      exact ⟨rfl, l, ys, e, h1, h2, fun z => h3 (hM _ z), h6⟩
def okArgs (ss : List Slot) : Bool := ss.all fun s => match s with | .no => false | _ => true
theorem okArgs_all {ss : List Slot} (h : okArgs ss = true) : ∀ s ∈ ss, s ≠ .no := fun s hs z => by
  have := List.all_eq_true.mp h s hs
  rw [z] at this; cases this
theorem Fr.lift {G H G2 H2 : Hp} (c : W.Cur G H) (f : Fr NoM AnyJ G H G2 H2) : W.Go G H G2 H2 :=
  ⟨f.gg, f.gh, fun a o _ e => f.keep a o (fun z => z) e, f.fr, f.dom, W.jl H H2 c.j fun a m => by
    cases z : H a with
    | none => exact absurd z (W.jm H a c.j m)
    | some o => exact f.keep a o (fun z => z) z⟩
/-- a call of a def that changes nothing -/
theorem evp_call {C : List Slot → (DD → Prop) → ErrP → Prop} {E : XK} {t : TA} (RE : ErrP) (hE : ∀ cls f x dv p G2 H2, W.Cur G2 H2 → H2 p = some (.xd [(f, x)]) → Rp G2 x dv → RE cls f dv → E (.ref cls) (some p) H2)
    (h : EvA W t ρ fun ss => okArgs ss = true ∧ C (ss.map toArg) (fun d => P (.dat d)) RE) : EvP W (tCall (spE NoM AnyJ C) [] E t) ρ P := fun σ G H S Q q =>
  h σ G H S _ fun xs G1 H1 ss f1 v1 ⟨ho, hc⟩ => by
    have c := S.cur.trans f1
    refine ⟨G1, ss.map toArg, _, RE, f1.gh, trivial, (fun _ z => z.elim), ?_, hc, fun v G2 H2 d f2 rv p => ?_, fun cls f x dv p G2 H2 f2 hp rx re => ?_⟩
    · rw [List.append_nil]
      exact args_ok (fun _ z => z.elim) v1 (okArgs_all ho)
    · exact q v G2 H2 (.dat d) (f1.trans (Fr.lift c f2)) rv p
    · exact hE cls f x dv p G2 H2 (c.trans (Fr.lift c f2)) hp rx re
/-- .. without errors -/
theorem evp_callP {C : List Slot → (DD → Prop) → Prop} {E : XK} {t : TA} (h : EvA W t ρ fun ss => okArgs ss = true ∧ C (ss.map toArg) (fun d => P (.dat d))) : EvP W (tCall (spP C) [] E t) ρ P :=
  evp_call (fun _ _ _ => False) (fun _ _ _ _ _ _ _ _ _ _ z => z.elim) h
/-- a call of a def that changes what may be changed -/
theorem evp_callM {M : Addr → Prop} {J : Hp → Prop} (hM : W.M = M) (hJ : W.J = J) {C : List Slot → (DD → Prop) → ErrP → Prop} {E : XK} {t : TA} (RE : ErrP) (hE : ∀ cls f x dv p G2 H2, W.Cur G2 H2 → H2 p = some (.xd [(f, x)]) → Rp G2 x dv → RE cls f dv → E (.ref cls) (some p) H2)
    (h : EvA W t ρ fun ss => okArgs ss = true ∧ C (ss.map toArg) (fun d => P (.dat d)) RE) : EvP W (tCall (spE M J C) [] E t) ρ P := fun σ G H S Q q =>
  h σ G H S _ fun xs G1 H1 ss f1 v1 ⟨ho, hc⟩ => by
    subst hM; subst hJ
    have c := S.cur.trans f1
    refine ⟨G1, ss.map toArg, _, RE, f1.gh, f1.j, (fun a m => W.gm c m), ?_, hc, fun v G2 H2 d f2 rv p => ?_, fun cls f x dv p G2 H2 f2 hp rx re => ?_⟩
    · rw [List.append_nil]
      exact args_ok (fun _ z => z) v1 (okArgs_all ho)
    · exact q v G2 H2 (.dat d) (f1.trans f2) rv p
    · exact hE cls f x dv p G2 H2 (c.trans f2) hp rx re
end

/-! ### a def's body keeps its promise -/
theorem argsOk_len {M : Addr → Prop} {G H : Hp} {vs : List V} {ss : List Slot} (h : Paired (ArgOk M G H) vs ss) : vs.length = ss.length := Paired.length h
/-- the setting at a def's entry -/
def wdOf (M : Addr → Prop) (J : Hp → Prop) (G H : Hp) (jl : ∀ H H', J H → (∀ a, M a → H' a = H a) → J H') (jm : ∀ H a, J H → M a → H a ≠ none) (g : Same G H) (j : J H) (mg : ∀ a, M a → G a = none) : Wd := ⟨M, J, G, H, jl, jm, mg, g, j⟩
theorem args_get {M : Addr → Prop} {G H : Hp} : ∀ {vs : List V} {ss : List Slot} {i : Nat} {s : Slot}, Paired (ArgOk M G H) vs ss → ss[i]? = some s → ∃ x, vs[i]? = some x ∧ ArgOk M G H x s
  | _, _, _, _, .nil, e => by simp at e
  | _, _, 0, _, .cons h _, e => by simp at e; subst e; exact ⟨_, rfl, h⟩
  | _, _, i + 1, _, .cons _ t, e => by
    obtain ⟨v, h1, h2⟩ := args_get (i := i) t (by simpa using e)
    exact ⟨v, by simpa using h1, h2⟩
theorem st_start {W : Wd} {N : List Str} {vs : List V} {ss : List Slot} (hl : ss.length ≤ N.length) (h : Paired (ArgOk W.M W.G0 W.H0) vs ss) : St W W.G0 W.H0 (L2.start N vs) (startS N ss) := by
  have le := argsOk_len h
  refine ⟨Fr.refl W.g0 W.j0, ?_, fun i s e n => ?_, fun i j m ds es l hij hi hj si sj => ?_⟩
  · unfold L2.start startS; simp [le]
  · unfold startS at e
    by_cases hi : i < ss.length
    · rw [List.getElem?_append_left hi] at e
      obtain ⟨x, h1, h2⟩ := args_get h e
      refine ⟨x, ?_, ?_⟩
      · unfold L2.start
        rw [List.getElem?_append_left (by simp; omega), List.getElem?_map, h1]; rfl
      · cases s with
        | no => exact h2.elim
        | dat d => exact h2
        | seq m ds =>
          obtain ⟨em, l, xs, e1, a1, a2, a3, a4⟩ := h2
          subst em
          exact ⟨l, xs, e1, a1, a2, a3, (fun z => by cases z), fun _ => a1, a4⟩
    · rw [List.getElem?_append_right (by omega), List.getElem?_replicate] at e
      split at e
      · cases e; exact absurd rfl n
      · cases e
  · unfold startS at hi
    by_cases hlt : i < ss.length
    · rw [List.getElem?_append_left hlt] at hi
      obtain ⟨x, _, h2⟩ := args_get h hi
      exact absurd h2.1 (by intro z; cases z)
    · rw [List.getElem?_append_right (by omega), List.getElem?_replicate] at hi
      split at hi <;> cases hi
section
variable {P : Program} {w : World} {K : PySem.W.Frag} {mg : Str → Option Value} {base : Heap}
/-- a def that raises nothing -/
theorem fn_sd {x qual : Str} {st : Stmt} {f : Addr} {fd : FuncData} {N ps : List Str} {k : Nat} {M : Addr → Prop} {J : Hp → Prop} {C : List Slot → (DD → Prop) → ErrP → Prop} (F : Fun K x qual st f fd) (S : FnScope N ps (defScope st))
    (jl : ∀ H H', J H → (∀ a, M a → H' a = H a) → J H') (jm : ∀ H a, J H → M a → H a ≠ none) (len : ∀ ss R RE, C ss R RE → ss.length = ps.length) (hps : ps.length ≤ N.length)
    (hbody : ∀ (cdv : Value) (A : Around) (outer : List Env) (s : Shared) (H : Hp) (E : XK), Room k (A.deeper (envOfC qual (defScope st) s.heap.objs.size f cdv)) →
      ∃ t, PSs (cxOf CX0 P w K mg base N qual (defScope st) f cdv A outer s H E).nox (defBody st) t ∧ ∀ (W : Wd) ss R RE, W.M = M → W.J = J → C ss R RE → SD W t (startS N ss) { nx := fun _ => R .non, rt := R }) :
    FnOk P w K mg base CX0 (k + 1) f fd ps (spE M J C) := by
  refine F.ok S (fun vs H Q E h => ?_) (fun cdv A outer s H vs Q E hr h => ?_)
  · obtain ⟨G, ss, R, RE, g, j, mg, va, c, _, _⟩ := h
    rw [argsOk_len va]; exact len ss R RE c
  · obtain ⟨G, ss, R, RE, g, j, mg, va, c, q, _⟩ := h
    obtain ⟨t, ht, hsd⟩ := hbody cdv A outer s H E hr
    refine ⟨t, ht, ?_⟩
    have W : Wd := ⟨M, J, G, H, jl, jm, mg, g, j⟩
    have hl := len ss R RE c
    exact hsd ⟨M, J, G, H, jl, jm, mg, g, j⟩ ss R RE rfl rfl c _ G H (st_start (W := ⟨M, J, G, H, jl, jm, mg, g, j⟩) (by omega) va) _
      ⟨fun σ2 G2 H2 ρ2 S2 _ k => q .non G2 H2 .non S2.cur .non k, fun x G2 H2 d c2 rx k => q x G2 H2 d c2 rx k, fun _ _ _ _ _ _ z => z.elim, fun _ _ _ _ _ _ z => z.elim⟩
end
end Dl

set_option Elab.async false
set_option linter.all false
set_option maxRecDepth 100000
set_option maxHeartbeats 1000000
/-! R1: rules of the machine that the library lacks: enumerate over a tuple, zip of three tuples. -/
namespace Dl
open PySem PySem.Spec PyProof.Rows L2

/-! ### enumerate(tuple) -/
theorem meets_enumerate_newB1 {v : Value} {o : Obj} {H : Heap → Prop} (B : Begins v o H) :
    Meets (Builtin.«enumerate.__new__» ⟨[.type "enumerate", v], []⟩) (fun _ R s => H s.heap ∧
      R (.ok (.ret (.ref (s.heap.push o).objs.size)))
        { s with heap := (s.heap.push o).push { cls := .type "enumerate", data := .fields #[.none, .bool false, .ref s.heap.objs.size, rawInt 0, .none, .none] } }) :=
  .of_wp fun prog w A R s h => by
    obtain ⟨hp, g, d, tk, os⟩ := s; obtain ⟨h1, h⟩ := h
    have hsub := sub_enumerate
    have q1 : ∀ {A' : Around} {E : Value → Shared → Prop} {Q : Value → Shared → Prop}, Q (.ref hp.objs.size) ⟨(hp.push o), g, d, tk, os⟩ → wpAny (model prog w) A' (pyIter v) Q E ⟨hp, g, d, tk, os⟩ :=
      fun q => B.iter prog w _ _ ⟨hp, g, d, tk, os⟩ _ h1 q
    wp_walk
    refine wpAny_stack_any fun st => wpAny_pure ?_
    split
    · rename_i c _ _ _ _ _
      cases (c == Value.type "enumerate")
      · wp_walk using q1
        exact ⟨_, rfl, h⟩
      · wp_walk using q1
        exact ⟨_, rfl, h⟩
    · wp_walk using q1
      exact ⟨_, rfl, h⟩
section
variable {prog : Program} {w : World} {A : Around} {E : Value → Shared → Prop} {s : Shared}
theorem call_enumerate_tup {l : Addr} {items : Array Value} {Q : Value → Shared → Prop} (hL : s.heap.IsTuple l items)
    (h : ∀ h', IsEnum h' (s.heap.objs.size + 1) s.heap.objs.size 0 .none → h'.IsTupleIter s.heap.objs.size l 0 → h'.objs.size = s.heap.objs.size + 2 →
      (∀ b o, s.heap.get? b = some o → h'.get? b = some o) → Q (.ref (s.heap.objs.size + 1)) { s with heap := h' }) :
    wpAny (model prog w) A (call (.type "enumerate") [.ref l]) Q E s := by
  refine callType_new F.called_enumerate (by decide) (F.typeCall_enumerate_1 _) (F.newCall_enumerate_1 _) (fun obj => F.args_object_init_2 obj _) F.entry_enumerate_new
    (meets_enumerate_newB1 (begins_tuple l items)) ⟨hL, ?_⟩
  have hz : (s.heap.push { cls := .type "tuple_iterator", data := .fields #[.ref l, .int 0 0] }).objs.size = s.heap.objs.size + 1 := Heap.size_push ..
  show _ ∧ _
  rw [hz]
  have he : IsEnum ((s.heap.push { cls := .type "tuple_iterator", data := .fields #[.ref l, .int 0 0] }).push
      { cls := .type "enumerate", data := .fields #[.none, .bool false, .ref s.heap.objs.size, rawInt 0, .none, .none] }) (s.heap.objs.size + 1) s.heap.objs.size 0 .none := by
    have := Heap.get?_push_size (s.heap.push { cls := .type "tuple_iterator", data := .fields #[.ref l, .int 0 0] })
      (o := { cls := .type "enumerate", data := .fields #[.none, .bool false, .ref s.heap.objs.size, rawInt 0, .none, .none] }) rfl
    rw [hz] at this; exact this
  refine ⟨⟨_, he, rfl⟩, h _ he ⟨_, Heap.get?_push_of_some _ (Heap.get?_push_size _ rfl), rfl, rfl⟩ (by rw [Heap.size_push, hz]) fun b o x => Heap.get?_push_of_some _ (Heap.get?_push_of_some _ x)⟩
end
/-- the tuple at a, each item in a new pair -/
def IteT (K : PySem.W.Frag) (a : Addr) : It :=
  ⟨fun i H => ∃ (xs : List V) (x : V), SqT K H a xs ∧ xs[i]? = some x, fun i H v H' => ∃ T x, v = .ref T ∧ H T = none ∧ H' = upd H T (.tup [.int (i : Nat), x]) ∧ ∀ xs, SqT K H a xs → xs[i]? = some x, fun i H => ∃ xs : List V, SqT K H a xs ∧ xs.length = i⟩
theorem enum_ne {h : Heap} {e it l : Addr} {i : Int} {old : Value} {items : Array Value} (he : IsEnum h e it i old) (hl : h.IsTuple l items) : e ≠ l := fun z => by
  subst z
  obtain ⟨o, ho, hc, n, hd⟩ := hl
  have he' : h.get? e = _ := he
  rw [he'] at ho; cases ho; cases hd
theorem turn_enumT {P : Program} {w : World} {K : PySem.W.Frag} {elts : List Expr} {kk : Nat} {tpos : Pos} (a e it : Addr) :
    Turn P w K (.Tuple elts kk tpos) (IteT K a) [e, it] e (fun i h => (∃ old, IsEnum h e it ((i : Nat) : Int) old) ∧ h.IsTupleIter it a i ∧ e ≠ it) where
  mem := by simp
  obj := fun i h st b hb => by
    obtain ⟨⟨old, he⟩, ⟨o, ho, hc, hd⟩, _⟩ := st
    have e' : b = e ∨ b = it := by simpa using hb
    rcases e' with z | z
    · rw [z]; exact ⟨_, he, fun v q => nomatch q⟩
    · rw [z]; exact ⟨o, ho, fun v q => by rw [hd] at q; cases q⟩
  keep := fun i h h' st k => let ⟨⟨old, he⟩, hi, hne⟩ := st; ⟨⟨old, k e (by simp) _ he⟩, hi.at fun o q => k it (by simp) o q, hne⟩
  item := by
    intro X hP hw hK hc i pins s σ H E I hf st hg
    subst hP hw hK
    obtain ⟨⟨old, he⟩, hit, hne⟩ := st
    obtain ⟨xs, x, hq, hx⟩ := hg
    obtain ⟨its, rv, p, hz⟩ := I.tuple hq
    obtain ⟨u, hu, ru⟩ := rv.get hx
    have hT : s.heap.IsTuple a its.toArray := p
    have hel : e < s.heap.objs.size := Heap.lt_size he
    have hil : it < s.heap.objs.size := by obtain ⟨_, q, _⟩ := hit; exact Heap.lt_size q
    have hai : a ≠ it := fun z => by
      subst z
      obtain ⟨o, ho, hc, n, hd⟩ := hT
      obtain ⟨o2, ho2, hc2, hd2⟩ := hit
      rw [ho] at ho2; cases ho2; rw [hd] at hd2; cases hd2
    have hea := enum_ne he hT
    have hlt : i < its.toArray.size := by
      have := (List.getElem?_eq_some_iff.mp hu).1
      simpa using this
    refine wpAny_pyNext_enum_itemD (Draws.tuple (prog := X.prog) (w := X.w) (A := X.A.in1) (I.ok.hd hc) it a hai its.toArray) he ⟨hit, hT⟩ hlt hne (by simp; exact ⟨hne, hea⟩) fun x2 h' tk hx2 ho hst' hTn hsz hk => ?_
    have ex : x2 = u := by
      have : its.toArray[i]? = some u := by simpa using hu
      rw [this] at hx2; exact (Option.some.inj hx2).symm
    subst ex
    obtain ⟨hit', _⟩ := hst'
    refine ⟨_, rfl, wpAny_letOwnedTupleGo_enum (s := { s with heap := h', toks := tk + 1 }) ho fun h'' he' sb => ?_⟩
    have hT2 : h''.get? s.heap.objs.size = some { cls := .type "tuple", data := .seq #[.int i tk, x2] } := (sb.2 _ (Nat.ne_of_gt hel)).trans hTn
    have new : ObjOk X.prog X.w (upd H s.heap.objs.size (.tup [.int (i : Nat), x])) h'' s.heap.objs.size (.tup [.int (i : Nat), x]) :=
      ⟨by show 2 ≤ sizeLine; decide, [.int i tk, x2], .cons ⟨_, rfl⟩ (.cons ru .nil), ⟨_, hT2, rfl, _, rfl⟩⟩
    have I1 : Inv X pins σ (upd H s.heap.objs.size (.tup [.int (i : Nat), x])) { s with heap := h'', toks := tk + 1 } :=
      I.turnedNew (ch := [e, it]) (fun b ob hb q => (sb.2 b (fun z => hb (by simp [z]))).trans (hk b ob (fun z => hb (by simp [z])) (fun z => hb (by simp [z])) q)) hf (Nat.le_refl _) new
    refine ⟨.ref s.heap.objs.size, _, I1, rfl, ⟨_, x, rfl, I.hok.fresh (Nat.le_refl _), rfl, fun ys hy => by rw [I.tuple_inj hy hq]; exact hx⟩, ⟨⟨x2, ?_⟩, hit'.at fun o q => (sb.2 it (Ne.symm hne)).trans q, hne⟩, fun b hb => ?_⟩
    · have e1 : ((i + 1 : Nat) : Int) = (i : Int) + 1 := by omega
      rw [e1]; exact he'
    · have hb' : b < s.heap.objs.size := by
        have e' : b = e ∨ b = it := by simpa using hb
        rcases e' with z | z
        · rw [z]; exact hel
        · rw [z]; exact hil
      rw [upd_ne (Nat.ne_of_lt hb')]
      exact (hf b hb).1
  done := by
    intro X hP hw hK hc i pins s σ H E I hf st hg
    subst hP hw hK
    obtain ⟨⟨old, he⟩, hit, hne⟩ := st
    obtain ⟨xs, hq, hx⟩ := hg
    obtain ⟨its, rv, p, hz⟩ := I.tuple hq
    have hT : s.heap.IsTuple a its.toArray := p
    obtain ⟨f0, f1, f2, f3, f4, f5⟩ := hf it (by simp)
    have hl := rv.length
    have hai : a ≠ it := fun z => by
      subst z
      obtain ⟨o, ho, hc, n, hd⟩ := hT
      obtain ⟨o2, ho2, hc2, hd2⟩ := hit
      rw [ho] at ho2; cases ho2; rw [hd] at hd2; cases hd2
    have ei : i = its.toArray.size := by simp; omega
    exact wpAny_pyNext_enum_endD (Draws.tuple (prog := X.prog) (w := X.w) (A := X.A.in1) (I.ok.hd hc) it a hai its.toArray) he ⟨by rw [← ei]; exact hit, hT⟩ fun h' eb => ⟨rfl, I.turned (t' := s.toks) (fun b o hb q => eb b o hb q) f0 f1 f3 f4 f5⟩
  self := fun A i s Q E st h => let ⟨⟨_, he⟩, _⟩ := st; wpAny_pyIter_enum he h
/-- enumerate of a list or a tuple -/
def iEnumU (K : PySem.W.Frag) (ta : TA) : TI := fun σ H R => ta σ H fun vs H1 => ∃ a xs, vs = [.ref a] ∧ ((SqL K H1 a xs ∧ R (Ite K a) H1) ∨ (SqT K H1 a xs ∧ R (IteT K a) H1))
theorem pi_enumU {X : Cx} {e : Expr} {ta : TA} {p pos tpos : Pos} {elts : List Expr} {kk : Nat} (hg : Gl X "enumerate") (hm : X.mg "enumerate" = none) (ha : PA X [e] ta) (hs : starEach [e] X.env = [(false, eval e X.env)] := by rfl) :
    PI X (.Tuple elts kk tpos) (.Call (.Name "enumerate" p) [e] [] pos) (iEnumU X.K ta) := by
  refine ⟨fun pins s σ H R I h => ?_⟩
  refine Call_ (ld_blt I hg hm boot_enumerate (PyProof.Rows.callWith_type1 (thn (ha.run pos pins s σ H _ I h) fun us s1 ⟨vs, H1, I1, r1, q1⟩ => ?_) hs rfl))
  obtain ⟨a, xs, ex, q1⟩ := q1
  subst ex
  cases r1 with
  | cons r rr =>
    cases rr
    cases r
    have fr : ∀ b ∈ [s1.heap.objs.size + 1, s1.heap.objs.size], FpOk X pins H1 b := fun b hb => by
      have e' : b = s1.heap.objs.size + 1 ∨ b = s1.heap.objs.size := by simpa using hb
      have hle : s1.heap.objs.size ≤ b := by
        rcases e' with z | z
        · rw [z]; exact Nat.le_add_right _ _
        · rw [z]; exact Nat.le_refl _
      exact I1.fpOk hle (I1.hok.fresh hle)
    rcases q1 with ⟨hq, q⟩ | ⟨hq, q⟩
    · obtain ⟨its, rv, p', hz⟩ := I1.list hq
      refine call_enumerate_list p'.isList fun h' he hit hsz hk => wpAny_pyIter_enum he ?_
      have I2 : Inv X pins σ H1 { s1 with heap := h' } := I1.kept (t' := s1.toks) hk
      exact ⟨s1.heap.objs.size + 1, [s1.heap.objs.size + 1, s1.heap.objs.size], _, _, H1, rfl, I2, turn_enum a (s1.heap.objs.size + 1) s1.heap.objs.size, ⟨⟨.none, he⟩, hit, Nat.succ_ne_self _⟩, fr, q⟩
    · obtain ⟨its, rv, p', hz⟩ := I1.tuple hq
      refine call_enumerate_tup (show s1.heap.IsTuple a its.toArray from p') fun h' he hit hsz hk => wpAny_pyIter_enum he ?_
      have I2 : Inv X pins σ H1 { s1 with heap := h' } := I1.kept (t' := s1.toks) hk
      exact ⟨s1.heap.objs.size + 1, [s1.heap.objs.size + 1, s1.heap.objs.size], _, _, H1, rfl, I2, turn_enumT a (s1.heap.objs.size + 1) s1.heap.objs.size, ⟨⟨.none, he⟩, hit, Nat.succ_ne_self _⟩, fr, q⟩

/-! ### zip of three tuples -/
def Itz3 (K : PySem.W.Frag) (a b c : Addr) : It :=
  ⟨fun i H => ∃ (xs ys zs : List V) (x y z : V), SqT K H a xs ∧ SqT K H b ys ∧ SqT K H c zs ∧ xs[i]? = some x ∧ ys[i]? = some y ∧ zs[i]? = some z,
    fun i H v H' => ∃ T x y z, v = .ref T ∧ H T = none ∧ H' = upd H T (.tup [x, y, z]) ∧ (∀ xs, SqT K H a xs → xs[i]? = some x) ∧ (∀ ys, SqT K H b ys → ys[i]? = some y) ∧ ∀ zs, SqT K H c zs → zs[i]? = some z,
    fun i H => ∃ xs ys zs : List V, SqT K H a xs ∧ SqT K H b ys ∧ SqT K H c zs ∧ xs.length = i ∧ ys.length = i ∧ zs.length = i⟩
theorem fields_ne_tup {h : Heap} {e l : Addr} {vs : Array Value} {c : Value} {items : Array Value} (he : h.get? e = some { cls := c, data := .fields vs }) (hl : h.IsTuple l items) : e ≠ l := fun z => by
  subst z
  obtain ⟨o, ho, hc, n, hd⟩ := hl
  rw [he] at ho; cases ho; cases hd
theorem iter_ne_tup {h : Heap} {it l t : Addr} {i : Nat} {items : Array Value} (hi : h.IsTupleIter it t i) (hl : h.IsTuple l items) : it ≠ l := fun z => by
  subst z
  obtain ⟨o, ho, hc, n, hd⟩ := hl
  obtain ⟨o2, ho2, hc2, hd2⟩ := hi
  rw [ho] at ho2; cases ho2; rw [hd] at hd2; cases hd2
/-- the six new cells lie apart -/
structure Zap (z TI TO i1 i2 i3 : Addr) : Prop where
  TIz : TI ≠ z
  TOz : TO ≠ z
  TITO : TI ≠ TO
  TIi1 : TI ≠ i1
  TIi2 : TI ≠ i2
  TIi3 : TI ≠ i3
  TOi1 : TO ≠ i1
  TOi2 : TO ≠ i2
  TOi3 : TO ≠ i3
  zi1 : z ≠ i1
  zi2 : z ≠ i2
  zi3 : z ≠ i3
  i12 : i1 ≠ i2
  i13 : i1 ≠ i3
  i23 : i2 ≠ i3
theorem zap_at (n : Nat) : Zap (n + 5) (n + 3) (n + 4) n (n + 1) (n + 2) := by
  constructor <;> (intro h; exact absurd (show (_ : Nat) = _ from h) (by omega))
/-- where zip's items are handed out, the tuple of that turn lies apart from what is zipped -/
theorem Zap.sep {z TI TO i1 i2 i3 a b c : Addr} (D : Zap z TI TO i1 i2 i3) (za : z ≠ a) (zb : z ≠ b) (zc : z ≠ c) (ta : TO ≠ a) (tb : TO ≠ b) (tc : TO ≠ c)
    (h1b : i1 ≠ b) (h1c : i1 ≠ c) (h2a : i2 ≠ a) (h2c : i2 ≠ c) (h3a : i3 ≠ a) (h3b : i3 ≠ b) : ZipSep3 z TI TO i1 i2 i3 [i1, a] [i2, b] [i3, c] where
  TIz := D.TIz
  TOz := D.TOz
  TITO := D.TITO
  TIi1 := D.TIi1
  mem1 := by simp
  zf1 := by simp; exact ⟨D.zi1, za⟩
  Tf1 := by simp; exact ⟨D.TOi1, ta⟩
  TIi2 := D.TIi2
  mem2 := by simp
  zf2 := by simp; exact ⟨D.zi2, zb⟩
  Tf2 := by simp; exact ⟨D.TOi2, tb⟩
  TIi3 := D.TIi3
  mem3 := by simp
  zf3 := by simp; exact ⟨D.zi3, zc⟩
  Tf3 := by simp; exact ⟨D.TOi3, tc⟩
  sep1_2 := by simp; exact ⟨D.i12, h1b⟩
  sep1_3 := by simp; exact ⟨D.i13, h1c⟩
  sep2_1 := by simp; exact ⟨Ne.symm D.i12, h2a⟩
  sep2_3 := by simp; exact ⟨D.i23, h2c⟩
  sep3_1 := by simp; exact ⟨Ne.symm D.i13, h3a⟩
  sep3_2 := by simp; exact ⟨Ne.symm D.i23, h3b⟩
theorem turn_zip3 {P : Program} {w : World} {K : PySem.W.Frag} {elts : List Expr} {kk : Nat} {tpos : Pos} {a b c z TI TO i1 i2 i3 : Addr} (D : Zap z TI TO i1 i2 i3) (ta : TO ≠ a) (tb : TO ≠ b) (tc : TO ≠ c) :
    Turn P w K (.Tuple elts kk tpos) (Itz3 K a b c) [z, TI, TO, i1, i2, i3] z (fun i h => IsZip h z TI TO .none ∧ IsTupOf3 h TI (.ref i1) (.ref i2) (.ref i3) ∧ (∃ x y u, IsTupOf3 h TO x y u) ∧ h.IsTupleIter i1 a i ∧ h.IsTupleIter i2 b i ∧ h.IsTupleIter i3 c i) where
  mem := by simp
  obj := fun i h st c hc => by
    obtain ⟨hz, hTI, ⟨x, y, u, hTO⟩, ⟨o1, e1, _, d1⟩, ⟨o2, e2, _, d2⟩, ⟨o3, e3, _, d3⟩⟩ := st
    have e' : c = z ∨ c = TI ∨ c = TO ∨ c = i1 ∨ c = i2 ∨ c = i3 := by simpa using hc
    rcases e' with q | q | q | q | q | q
    · rw [q]; exact ⟨_, hz, fun v q => nomatch q⟩
    · rw [q]; exact ⟨_, hTI, fun v q => nomatch q⟩
    · rw [q]; exact ⟨_, hTO, fun v q => nomatch q⟩
    · rw [q]; exact ⟨o1, e1, fun v q => by rw [d1] at q; cases q⟩
    · rw [q]; exact ⟨o2, e2, fun v q => by rw [d2] at q; cases q⟩
    · rw [q]; exact ⟨o3, e3, fun v q => by rw [d3] at q; cases q⟩
  keep := fun i h h' st k => by
    obtain ⟨hz, hTI, ⟨x, y, u, hTO⟩, h1, h2, h3⟩ := st
    exact ⟨k z (by simp) _ hz, k TI (by simp) _ hTI, ⟨x, y, u, k TO (by simp) _ hTO⟩, h1.at fun o q => k i1 (by simp) o q, h2.at fun o q => k i2 (by simp) o q, h3.at fun o q => k i3 (by simp) o q⟩
  item := by
    intro X hP hw hK hc i pins s σ H E I hf st hg
    subst hP hw hK
    obtain ⟨hz, hTI, ⟨x0, y0, u0, hTO⟩, h1, h2, h3⟩ := st
    obtain ⟨xs, ys, zs, x, y, u, hqx, hqy, hqz, hx, hy, hu⟩ := hg
    obtain ⟨its, rv, p1, _⟩ := I.tuple hqx
    obtain ⟨its2, rv2, p2, _⟩ := I.tuple hqy
    obtain ⟨its3, rv3, p3, _⟩ := I.tuple hqz
    obtain ⟨w1, hw1, r1⟩ := rv.get hx
    obtain ⟨w2, hw2, r2⟩ := rv2.get hy
    obtain ⟨w3, hw3, r3⟩ := rv3.get hu
    have T1 : s.heap.IsTuple a its.toArray := p1
    have T2 : s.heap.IsTuple b its2.toArray := p2
    have T3 : s.heap.IsTuple c its3.toArray := p3
    have hzl : z < s.heap.objs.size := Heap.lt_size hz
    have S := D.sep (fields_ne_tup hz T1) (fields_ne_tup hz T2) (fields_ne_tup hz T3) ta tb tc (iter_ne_tup h1 T2) (iter_ne_tup h1 T3) (iter_ne_tup h2 T1) (iter_ne_tup h2 T3) (iter_ne_tup h3 T1) (iter_ne_tup h3 T2)
    have hh := I.ok.hd hc
    have l1 : i < its.toArray.size := by have := (List.getElem?_eq_some_iff.mp hw1).1; simpa using this
    have l2 : i < its2.toArray.size := by have := (List.getElem?_eq_some_iff.mp hw2).1; simpa using this
    have l3 : i < its3.toArray.size := by have := (List.getElem?_eq_some_iff.mp hw3).1; simpa using this
    refine wpAny_pyNext_zipD3_item S (Draws.tuple (prog := X.prog) (w := X.w) (A := X.A.in1) hh i1 a (Ne.symm (iter_ne_tup h1 T1)) its.toArray) (Draws.tuple (prog := X.prog) (w := X.w) (A := X.A.in1) hh i2 b (Ne.symm (iter_ne_tup h2 T2)) its2.toArray) (Draws.tuple (prog := X.prog) (w := X.w) (A := X.A.in1) hh i3 c (Ne.symm (iter_ne_tup h3 T3)) its3.toArray)
      hz hTI hTO ⟨h1, T1⟩ ⟨h2, T2⟩ ⟨h3, T3⟩ l1 l2 l3 fun v1 v2 v3 h' tk e1 e2 e3 z' TO' k1 k2 k3 hT hsz hk => ?_
    have q1 : v1 = w1 := by
      have : its.toArray[i]? = some w1 := by simpa using hw1
      rw [this] at e1; exact (Option.some.inj e1).symm
    have q2 : v2 = w2 := by
      have : its2.toArray[i]? = some w2 := by simpa using hw2
      rw [this] at e2; exact (Option.some.inj e2).symm
    have q3 : v3 = w3 := by
      have : its3.toArray[i]? = some w3 := by simpa using hw3
      rw [this] at e3; exact (Option.some.inj e3).symm
    subst q1; subst q2; subst q3
    refine ⟨_, rfl, wpAny_letOwnedTupleGo_zip (s := { s with heap := h', toks := tk }) z' fun h'' z'' sb => ?_⟩
    have hT2 : h''.get? s.heap.objs.size = some { cls := .type "tuple", data := .seq #[v1, v2, v3] } := (sb.2 _ (Nat.ne_of_gt hzl)).trans hT
    have new : ObjOk X.prog X.w (upd H s.heap.objs.size (.tup [x, y, u])) h'' s.heap.objs.size (.tup [x, y, u]) :=
      ⟨by show 3 ≤ sizeLine; decide, [v1, v2, v3], .cons r1 (.cons r2 (.cons r3 .nil)), ⟨_, hT2, rfl, _, rfl⟩⟩
    have I1 : Inv X pins σ (upd H s.heap.objs.size (.tup [x, y, u])) { s with heap := h'', toks := tk } :=
      I.turnedNew (ch := [z, TI, TO, i1, i2, i3]) (fun c o hb q => (sb.2 c (fun q' => hb (by simp [q']))).trans (hk c o (fun q' => hb (by simp [q'])) (fun q' => hb (by simp [q'])) (fun q' => hb (by simp [q'])) (fun q' => hb (by simp [q'])) (fun q' => hb (by simp [q'])) q)) hf (Nat.le_refl _) new
    refine ⟨.ref s.heap.objs.size, _, I1, rfl, ⟨_, x, y, u, rfl, I.hok.fresh (Nat.le_refl _), rfl, fun l hl => by rw [I.tuple_inj hl hqx]; exact hx, fun l hl => by rw [I.tuple_inj hl hqy]; exact hy, fun l hl => by rw [I.tuple_inj hl hqz]; exact hu⟩, ⟨z'', ?_, ⟨v1, v2, v3, ?_⟩, ?_, ?_, ?_⟩, fun c hcm => ?_⟩
    · exact (sb.2 _ D.TIz).trans (hk _ _ D.TIz D.TITO D.TIi1 D.TIi2 D.TIi3 hTI)
    · exact (sb.2 _ D.TOz).trans TO'
    · exact k1.1.at fun o q => (sb.2 _ (Ne.symm D.zi1)).trans q
    · exact k2.1.at fun o q => (sb.2 _ (Ne.symm D.zi2)).trans q
    · exact k3.1.at fun o q => (sb.2 _ (Ne.symm D.zi3)).trans q
    · have hlt : c < s.heap.objs.size := by
        have e' : c = z ∨ c = TI ∨ c = TO ∨ c = i1 ∨ c = i2 ∨ c = i3 := by simpa using hcm
        rcases e' with q | q | q | q | q | q
        · rw [q]; exact hzl
        · rw [q]; exact Heap.lt_size hTI
        · rw [q]; exact Heap.lt_size hTO
        · rw [q]; obtain ⟨_, e1, _⟩ := h1; exact Heap.lt_size e1
        · rw [q]; obtain ⟨_, e2, _⟩ := h2; exact Heap.lt_size e2
        · rw [q]; obtain ⟨_, e2, _⟩ := h3; exact Heap.lt_size e2
      rw [upd_ne (Nat.ne_of_lt hlt)]
      exact (hf c hcm).1
  done := by
    intro X hP hw hK hc i pins s σ H E I hf st hg
    subst hP hw hK
    obtain ⟨hz, hTI, ⟨x0, y0, u0, hTO⟩, h1, h2, h3⟩ := st
    obtain ⟨xs, ys, zs, hqx, hqy, hqz, ex, ey, ez⟩ := hg
    obtain ⟨its, rv, p1, _⟩ := I.tuple hqx
    obtain ⟨its2, rv2, p2, _⟩ := I.tuple hqy
    obtain ⟨its3, rv3, p3, _⟩ := I.tuple hqz
    have T1 : s.heap.IsTuple a its.toArray := p1
    have T2 : s.heap.IsTuple b its2.toArray := p2
    have T3 : s.heap.IsTuple c its3.toArray := p3
    have S := D.sep (fields_ne_tup hz T1) (fields_ne_tup hz T2) (fields_ne_tup hz T3) ta tb tc (iter_ne_tup h1 T2) (iter_ne_tup h1 T3) (iter_ne_tup h2 T1) (iter_ne_tup h2 T3) (iter_ne_tup h3 T1) (iter_ne_tup h3 T2)
    have hh := I.ok.hd hc
    have l1 : its.toArray.size = i := by have := rv.length; simp; omega
    have l2 : its2.toArray.size = i := by have := rv2.length; simp; omega
    have l3 : its3.toArray.size = i := by have := rv3.length; simp; omega
    exact wpAny_pyNext_zipD3_end S (Draws.tuple (prog := X.prog) (w := X.w) (A := X.A.in1) hh i1 a (Ne.symm (iter_ne_tup h1 T1)) its.toArray) (Draws.tuple (prog := X.prog) (w := X.w) (A := X.A.in1) hh i2 b (Ne.symm (iter_ne_tup h2 T2)) its2.toArray) (Draws.tuple (prog := X.prog) (w := X.w) (A := X.A.in1) hh i3 c (Ne.symm (iter_ne_tup h3 T3)) its3.toArray)
      hz hTI hTO ⟨h1, T1⟩ ⟨h2, T2⟩ ⟨h3, T3⟩ (by omega) (by omega) (by omega) (by omega) fun h' tk hk => ⟨rfl, I.turnedL (t' := tk) (ch := [z, TI, TO, i1, i2, i3]) (fun c o hb q =>
        hk c o (fun q' => hb (by simp [q'])) (fun q' => hb (by simp [q'])) (fun q' => hb (by simp [q'])) (fun q' => hb (by simp [q'])) (fun q' => hb (by simp [q'])) q) hf⟩
  self := fun A i s Q E st h => wpAny_pyIter_zip st.1 h
def iZip3 (K : PySem.W.Frag) (ta : TA) : TI := fun σ H R => ta σ H fun vs H1 => ∃ a b c xs ys zs, vs = [.ref a, .ref b, .ref c] ∧ SqT K H1 a xs ∧ SqT K H1 b ys ∧ SqT K H1 c zs ∧ R (Itz3 K a b c) H1
theorem pi_zip3T {X : Cx} {e e2 e3 : Expr} {ta : TA} {p pos tpos : Pos} {elts : List Expr} {kk : Nat} (hg : Gl X "zip") (hm : X.mg "zip" = none) (ha : PA X [e, e2, e3] ta)
    (hs : starEach [e, e2, e3] X.env = (false, eval e X.env) :: starEach [e2, e3] X.env := by rfl) (hpl : (backTo pos (starEach [e2, e3] X.env)).any (·.1) = false := by rfl) :
    PI X (.Tuple elts kk tpos) (.Call (.Name "zip" p) [e, e2, e3] [] pos) (iZip3 X.K ta) := by
  refine ⟨fun pins s σ H R I h => ?_⟩
  refine Call_ (ld_blt I hg hm PyProof.Rows.boot_zip (PyProof.Rows.callWith_type1 (thn (ha.run pos pins s σ H _ I h) fun us s1 ⟨vs, H1, I1, r1, q1⟩ => ?_) hs hpl))
  obtain ⟨a, b, c, xs, ys, zs, ex, hqx, hqy, hqz, q⟩ := q1
  subst ex
  cases r1 with
  | cons r rr =>
    cases rr with
    | cons r' rr =>
      cases rr with
      | cons r'' rr =>
        cases rr
        cases r
        cases r'
        cases r''
        obtain ⟨its, rv, p1, _⟩ := I1.tuple hqx
        obtain ⟨its2, rv2, p2, _⟩ := I1.tuple hqy
        obtain ⟨its3, rv3, p3, _⟩ := I1.tuple hqz
        have T1 : s1.heap.IsTuple a its.toArray := p1
        have T2 : s1.heap.IsTuple b its2.toArray := p2
        have T3 : s1.heap.IsTuple c its3.toArray := p3
        have la : a < s1.heap.objs.size := by obtain ⟨_, e, _⟩ := T1; exact Heap.lt_size e
        have lb : b < s1.heap.objs.size := by obtain ⟨_, e, _⟩ := T2; exact Heap.lt_size e
        have lc : c < s1.heap.objs.size := by obtain ⟨_, e, _⟩ := T3; exact Heap.lt_size e
        refine zip_begins3 (begins_tuple a its.toArray) (begins_tuple b its2.toArray) (begins_tuple c its3.toArray) T1 T2 T3 fun h' hz hTI hTO h1 h2 h3 hsz hk => wpAny_pyIter_zip hz ?_
        have I2 : Inv X pins σ H1 { s1 with heap := h' } := I1.kept (t' := s1.toks) hk
        refine ⟨s1.heap.objs.size + 5, [s1.heap.objs.size + 5, s1.heap.objs.size + 3, s1.heap.objs.size + 4, s1.heap.objs.size, s1.heap.objs.size + 1, s1.heap.objs.size + 2], _, _, H1, rfl, I2,
          turn_zip3 (a := a) (b := b) (c := c) (i1 := s1.heap.objs.size) (i2 := s1.heap.objs.size + 1) (i3 := s1.heap.objs.size + 2) (TI := s1.heap.objs.size + 3) (TO := s1.heap.objs.size + 4) (zap_at _) (Nat.ne_of_gt (Nat.lt_of_lt_of_le la (Nat.le_add_right _ _))) (Nat.ne_of_gt (Nat.lt_of_lt_of_le lb (Nat.le_add_right _ _))) (Nat.ne_of_gt (Nat.lt_of_lt_of_le lc (Nat.le_add_right _ _))),
          ⟨hz, hTI, ⟨_, _, _, hTO⟩, ⟨_, h1, rfl, rfl⟩, ⟨_, h2, rfl, rfl⟩, ⟨_, h3, rfl, rfl⟩⟩, fun d hd => ?_, q⟩
        have hle : s1.heap.objs.size ≤ d := by
          have e' : d = s1.heap.objs.size + 5 ∨ d = s1.heap.objs.size + 3 ∨ d = s1.heap.objs.size + 4 ∨ d = s1.heap.objs.size ∨ d = s1.heap.objs.size + 1 ∨ d = s1.heap.objs.size + 2 := by simpa using hd
          rcases e' with q | q | q | q | q | q
          · rw [q]; exact Nat.le_add_right _ _
          · rw [q]; exact Nat.le_add_right _ _
          · rw [q]; exact Nat.le_add_right _ _
          · rw [q]; exact Nat.le_refl _
          · rw [q]; exact Nat.le_add_right _ _
          · rw [q]; exact Nat.le_add_right _ _
        exact I1.fpOk hle (I1.hok.fresh hle)
end Dl

set_option Elab.async false
set_option linter.all false
set_option maxRecDepth 100000
set_option maxHeartbeats 1000000
/-! D6: isinstance, walks over either kind, enumerate, zip, unpacked lists. -/
namespace Dl
open PySem PySem.Spec PyProof.Rows L2

/-! ### either kind walked -/
def iSeq (K : PySem.W.Frag) (tl : TE) : TI := fun σ H R => tl σ H fun x H1 => ∃ a, x = .ref a ∧ ((∃ xs, SqL K H1 a xs ∧ R (Itl K a) H1) ∨ (∃ xs, SqT K H1 a xs ∧ R (Itt K a) H1))
theorem pi_seq {X : Cx} {tg : Expr} {l : Expr} {tl : TE} (hl : PE X l tl) : PI X tg l (iSeq X.K tl) := by
  refine ⟨fun pins s σ H R I h => ?_⟩
  refine thn (hl.run pins s σ H _ I h) fun v s1 ⟨x, H1, I1, r1, q1⟩ => ?_
  obtain ⟨a, e, q1⟩ := q1
  subst e
  cases r1
  have fr : ∀ b ∈ [s1.heap.objs.size], FpOk X pins H1 b := fun b hb => by
    have e : b = s1.heap.objs.size := by simpa using hb
    subst e
    exact I1.fpOk (Nat.le_refl _) (I1.hok.fresh (Nat.le_refl _))
  rcases q1 with ⟨xs, hq, q⟩ | ⟨xs, hq, q⟩
  · obtain ⟨its, rv, p, hz⟩ := I1.list hq
    refine wpAny_pyIter_list p.isList ?_
    exact ⟨s1.heap.objs.size, [s1.heap.objs.size], _, _, H1, rfl, I1.kept (t' := s1.toks) fun b o e => Heap.get?_push_of_some _ e, turn_list a _, ⟨_, Heap.get?_push_size _ rfl, rfl, rfl⟩, fr, q⟩
  · obtain ⟨its, rv, p, hz⟩ := I1.tuple hq
    refine wpAny_pyIter_tuple (show s1.heap.IsTuple a its.toArray from p) ?_
    exact ⟨s1.heap.objs.size, [s1.heap.objs.size], _, _, H1, rfl, I1.kept (t' := s1.toks) fun b o e => Heap.get?_push_of_some _ e, turn_tuple a _, ⟨_, Heap.get?_push_size _ rfl, rfl, rfl⟩, fr, q⟩

/-- what a for may walk: data, a list that is lent -/
inductive LeS : Slot → List DD → Prop
  | lst (ds : List DD) : LeS (.dat (.lst ds)) ds
  | tup (ds : List DD) : LeS (.dat (.tup ds)) ds
  | seq (ds : List DD) : LeS (.seq .lent ds) ds
section
variable {W : Wd} {ρ : List Slot} {K : PySem.W.Frag} {te : TE} {s : Slot} {ds : List DD} {a : Addr} {P : Nat → (Nat → DD) → Prop}
/-- where data's items are: a list or a tuple -/
theorem LeS.at {G H : Hp} {x : V} (h : LeS s ds) (v : VOk W G H x s) (c : W.Cur G H) : ∃ a, x = .ref a ∧ (LsAt W a ds G H ∨ TsAt a ds G H) := by
  cases h with
  | lst =>
    obtain ⟨a, e, h⟩ := LentS.at (.lst ds) v c
    exact ⟨a, e, .inl h⟩
  | seq =>
    obtain ⟨a, e, h⟩ := LentS.at (.seq ds) v c
    exact ⟨a, e, .inl h⟩
  | tup =>
    cases v with
    | tup h1 h2 => exact ⟨_, rfl, .inr ⟨_, h1, h2⟩⟩
theorem SeqS.at {G H : Hp} {x : V} (h : SeqS s ds) (v : VOk W G H x s) (c : W.Cur G H) : ∃ a, x = .ref a ∧ (LvAt W a ds G H ∨ TsAt a ds G H) := by
  cases h with
  | lst =>
    obtain ⟨a, e, h⟩ := LsS.at (.lst ds) v c
    exact ⟨a, e, .inl h⟩
  | seq m =>
    obtain ⟨a, e, h⟩ := LsS.at (.seq m ds) v c
    exact ⟨a, e, .inl h⟩
  | tup =>
    cases v with
    | tup h1 h2 => exact ⟨_, rfl, .inr ⟨_, h1, h2⟩⟩
theorem TsAt.items {G H : Hp} (c : W.Cur G H) (h : TsAt a ds G H) : ∃ xs, H a = some (.tup xs) ∧ RpAll G xs ds := by
  obtain ⟨xs, h1, h2⟩ := h
  exact ⟨xs, c.gh _ _ h1, h2⟩
theorem TsAt.on {G H G' H' : Hp} (h : TsAt a ds G H) (g : Same G G') : TsAt a ds G' H' := by
  obtain ⟨xs, h1, h2⟩ := h
  exact ⟨xs, g _ _ h1, h2.mono g⟩
theorem LvAt.items {G H : Hp} (h : LvAt W a ds G H) : ∃ xs, H a = some (.lst xs) ∧ RpAll G xs ds := by
  obtain ⟨xs, h1, _, h2⟩ := h
  exact ⟨xs, h1, h2⟩
theorem LvAt.on {G H G' H' : Hp} (h : LvAt W a ds G H) (f : W.Go G H G' H') : LvAt W a ds G' H' := by
  obtain ⟨xs, h1, h2, h3⟩ := h
  exact ⟨xs, f.keep _ _ h2 h1, h2, h3.mono f.gg⟩
theorem wfp_seq (h : EvP W te ρ fun s => ∃ ds, LeS s ds ∧ P ds.length (itemsOf ds)) : WfP W (iSeq K te) ρ P := fun σ G H S R k =>
  h σ G H S _ fun x G1 H1 s f1 v1 ⟨ds, hs, p⟩ => by
    have c := S.cur.trans f1
    obtain ⟨a, rfl, l | l⟩ := hs.at v1 c
    · obtain ⟨xs, hx, _⟩ := l.items c
      exact ⟨a, rfl, .inl ⟨xs, SqL.of hx, k _ G1 H1 _ _ (LsAt W a ds) f1 l (isw_list _ fun G H c l => l.items c) (fun G H G' H' l _ g => l.on g) p⟩⟩
    · obtain ⟨xs, hx, _⟩ := l.items c
      exact ⟨a, rfl, .inr ⟨xs, SqT.of hx, k _ G1 H1 _ _ (TsAt a ds) f1 l (isw_tup _ fun G H c l => l.items c) (fun G H G' H' l _ g => l.on g) p⟩⟩
theorem wip_seq (h : EvP W te ρ fun s => ∃ ds, SeqS s ds ∧ P ds.length (itemsOf ds)) : WiP W (iSeq K te) ρ P := fun σ G H S R k =>
  h σ G H S _ fun x G1 H1 s f1 v1 ⟨ds, hs, p⟩ => by
    have c := S.cur.trans f1
    obtain ⟨a, rfl, l | l⟩ := hs.at v1 c
    · obtain ⟨xs, hx, _⟩ := l.items
      exact ⟨a, rfl, .inl ⟨xs, SqL.of hx, k _ G1 H1 _ _ (LvAt W a ds) f1 l (isw_list _ fun G H c l => l.items) (fun G H G' H' l f => l.on f) p⟩⟩
    · obtain ⟨xs, hx, _⟩ := l.items c
      exact ⟨a, rfl, .inr ⟨xs, SqT.of hx, k _ G1 H1 _ _ (TsAt a ds) f1 l (isw_tup _ fun G H c l => l.items c) (fun G H G' H' l f => l.on f.gg) p⟩⟩

/-! ### enumerate -/
def enumOf (ds : List DD) (i : Nat) : DD := .tup [.int ((i : Nat) : Int), itemsOf ds i]
theorem isw_enumL (L : Hp → Hp → Prop) (hl : ∀ G H, W.Cur G H → L G H → ∃ xs, H a = some (.lst xs) ∧ RpAll G xs ds) : IsW W L (Ite K a) ds.length (enumOf ds) where
  goes := fun i G H hi c l => by
    obtain ⟨xs, h1, h2⟩ := hl G H c l
    obtain ⟨x, hx, _⟩ := h2.get (itemsOf_lt hi)
    exact ⟨xs, x, SqL.of h1, hx⟩
  stops := fun G H c l => by
    obtain ⟨xs, h1, h2⟩ := hl G H c l
    exact ⟨xs, SqL.of h1, Nat.le_of_eq h2.length⟩
  yields := fun i G H v H' hi c l y => by
    obtain ⟨xs, h1, h2⟩ := hl G H c l
    obtain ⟨T, x, ev, hT, e, y⟩ := y
    subst e; subst ev
    obtain ⟨d, hd, rd⟩ := h2.getV (y xs (SqL.of h1))
    have f := W.new (o := .tup [.int (i : Nat), x]) c hT
    exact ⟨_, f, .tup upd_same (.cons (.int _) (.cons (by rw [itemsOf_eq hd]; exact rd.mono f.gg) .nil))⟩
theorem isw_enumT (L : Hp → Hp → Prop) (hl : ∀ G H, W.Cur G H → L G H → ∃ xs, H a = some (.tup xs) ∧ RpAll G xs ds) : IsW W L (IteT K a) ds.length (enumOf ds) where
  goes := fun i G H hi c l => by
    obtain ⟨xs, h1, h2⟩ := hl G H c l
    obtain ⟨x, hx, _⟩ := h2.get (itemsOf_lt hi)
    exact ⟨xs, x, SqT.of h1, hx⟩
  stops := fun G H c l => by
    obtain ⟨xs, h1, h2⟩ := hl G H c l
    exact ⟨xs, SqT.of h1, h2.length⟩
  yields := fun i G H v H' hi c l y => by
    obtain ⟨xs, h1, h2⟩ := hl G H c l
    obtain ⟨T, x, ev, hT, e, y⟩ := y
    subst e; subst ev
    obtain ⟨d, hd, rd⟩ := h2.getV (y xs (SqT.of h1))
    have f := W.new (o := .tup [.int (i : Nat), x]) c hT
    exact ⟨_, f, .tup upd_same (.cons (.int _) (.cons (by rw [itemsOf_eq hd]; exact rd.mono f.gg) .nil))⟩
theorem wfp_enum {ta : TA} (h : EvA W ta ρ fun ss => ∃ s ds, ss = [s] ∧ LeS s ds ∧ P ds.length (enumOf ds)) : WfP W (iEnumU K ta) ρ P := fun σ G H S R k =>
  h σ G H S _ fun xs G1 H1 ss f1 v1 ⟨s, ds, e, hs, p⟩ => by
    subst e
    obtain ⟨x, rfl, w1⟩ := pair1 v1
    have c := S.cur.trans f1
    obtain ⟨a, rfl, l | l⟩ := hs.at w1 c
    · obtain ⟨xs, hx, _⟩ := l.items c
      exact ⟨a, xs, rfl, .inl ⟨SqL.of hx, k _ G1 H1 _ _ (LsAt W a ds) f1 l (isw_enumL _ fun G H c l => l.items c) (fun G H G' H' l _ g => l.on g) p⟩⟩
    · obtain ⟨xs, hx, _⟩ := l.items c
      exact ⟨a, xs, rfl, .inr ⟨SqT.of hx, k _ G1 H1 _ _ (TsAt a ds) f1 l (isw_enumT _ fun G H c l => l.items c) (fun G H G' H' l _ g => l.on g) p⟩⟩
theorem wip_enum {ta : TA} (h : EvA W ta ρ fun ss => ∃ s ds, ss = [s] ∧ SeqS s ds ∧ P ds.length (enumOf ds)) : WiP W (iEnumU K ta) ρ P := fun σ G H S R k =>
  h σ G H S _ fun xs G1 H1 ss f1 v1 ⟨s, ds, e, hs, p⟩ => by
    subst e
    obtain ⟨x, rfl, w1⟩ := pair1 v1
    have c := S.cur.trans f1
    obtain ⟨a, rfl, l | l⟩ := hs.at w1 c
    · obtain ⟨xs, hx, _⟩ := l.items
      exact ⟨a, xs, rfl, .inl ⟨SqL.of hx, k _ G1 H1 _ _ (LvAt W a ds) f1 l (isw_enumL _ fun G H c l => l.items) (fun G H G' H' l f => l.on f) p⟩⟩
    · obtain ⟨xs, hx, _⟩ := l.items c
      exact ⟨a, xs, rfl, .inr ⟨SqT.of hx, k _ G1 H1 _ _ (TsAt a ds) f1 l (isw_enumT _ fun G H c l => l.items c) (fun G H G' H' l f => l.on f.gg) p⟩⟩

/-! ### zip of two lists, of three tuples -/
def zipOf (ds es : List DD) (i : Nat) : DD := .tup [itemsOf ds i, itemsOf es i]
def zip3Of (ds es fs : List DD) (i : Nat) : DD := .tup [itemsOf ds i, itemsOf es i, itemsOf fs i]
theorem wip_zip {ta : TA} (h : EvA W ta ρ fun ss => ∃ s t ds es, ss = [s, t] ∧ LsS s ds ∧ LsS t es ∧ ds.length = es.length ∧ P ds.length (zipOf ds es)) : WiP W (iZip K ta) ρ P := fun σ G H S R k =>
  h σ G H S _ fun xs G1 H1 ss f1 v1 ⟨s, t, ds, es, e, hs, ht, hl, p⟩ => by
    subst e
    obtain ⟨x, y, rfl, v1, v2⟩ := pair2 v1
    have c := S.cur.trans f1
    obtain ⟨a, rfl, l⟩ := hs.at v1 c
    obtain ⟨b, rfl, m⟩ := ht.at v2 c
    obtain ⟨xs, hx, _⟩ := l.items
    obtain ⟨ys, hy, _⟩ := m.items
    refine ⟨a, b, xs, ys, rfl, SqL.of hx, SqL.of hy, k _ G1 H1 ds.length (zipOf ds es) (fun G H => LvAt W a ds G H ∧ LvAt W b es G H) f1 ⟨l, m⟩ ⟨?_, ?_, ?_⟩ (fun G H G' H' l f => ⟨l.1.on f, l.2.on f⟩) p⟩
    · intro i G H hi c l
      obtain ⟨xs, h1, h2⟩ := l.1.items
      obtain ⟨ys, h3, h4⟩ := l.2.items
      obtain ⟨x, hx, _⟩ := h2.get (itemsOf_lt hi)
      obtain ⟨y, hy, _⟩ := h4.get (itemsOf_lt (hl ▸ hi))
      exact ⟨xs, ys, x, y, SqL.of h1, SqL.of h3, hx, hy⟩
    · intro G H c l
      obtain ⟨xs, h1, h2⟩ := l.1.items
      obtain ⟨ys, h3, h4⟩ := l.2.items
      exact ⟨xs, ys, SqL.of h1, SqL.of h3, .inl (Nat.le_of_eq h2.length)⟩
    · intro i G H v H' hi c l yl
      obtain ⟨xs, h1, h2⟩ := l.1.items
      obtain ⟨ys, h3, h4⟩ := l.2.items
      obtain ⟨T, x, y, ev, hT, e, y1, y2⟩ := yl
      subst e; subst ev
      obtain ⟨d, hd, rd⟩ := h2.getV (y1 xs (SqL.of h1))
      obtain ⟨d2, hd2, rd2⟩ := h4.getV (y2 ys (SqL.of h3))
      have f := W.new (o := .tup [x, y]) c hT
      exact ⟨_, f, .tup upd_same (.cons (by rw [itemsOf_eq hd]; exact rd.mono f.gg) (.cons (by rw [itemsOf_eq hd2]; exact rd2.mono f.gg) .nil))⟩
theorem pair3 {s t u : Slot} {G H : Hp} {xs : List V} (h : Paired (VOk W G H) xs [s, t, u]) : ∃ x y z, xs = [x, y, z] ∧ VOk W G H x s ∧ VOk W G H y t ∧ VOk W G H z u := by
  cases h with
  | cons h1 h2 =>
    obtain ⟨y, z, e, h3, h4⟩ := pair2 h2
    exact ⟨_, y, z, by rw [e], h1, h3, h4⟩
theorem wip_zip3 {ta : TA} (h : EvA W ta ρ fun ss => ∃ ds es fs, ss = [.dat (.tup ds), .dat (.tup es), .dat (.tup fs)] ∧ es.length = ds.length ∧ fs.length = ds.length ∧ P ds.length (zip3Of ds es fs)) : WiP W (iZip3 K ta) ρ P := fun σ G H S R k =>
  h σ G H S _ fun xs G1 H1 ss f1 v1 ⟨ds, es, fs, e, hl, hl2, p⟩ => by
    subst e
    obtain ⟨x, y, z, rfl, v1, v2, v3⟩ := pair3 v1
    have c := S.cur.trans f1
    cases v1 with
    | @tup a xs _ g1 r1 =>
    cases v2 with
    | @tup b ys _ g2 r2 =>
    cases v3 with
    | @tup d zs _ g3 r3 =>
    refine ⟨a, b, d, xs, ys, zs, rfl, SqT.of (f1.gh _ _ g1), SqT.of (f1.gh _ _ g2), SqT.of (f1.gh _ _ g3), k _ G1 H1 ds.length (zip3Of ds es fs) (fun G H => TsAt a ds G H ∧ TsAt b es G H ∧ TsAt d fs G H) f1 ⟨⟨_, g1, r1⟩, ⟨_, g2, r2⟩, ⟨_, g3, r3⟩⟩ ⟨?_, ?_, ?_⟩ (fun G H G' H' l f => ⟨l.1.on f.gg, l.2.1.on f.gg, l.2.2.on f.gg⟩) p⟩
    · intro i G H hi c l
      obtain ⟨xs, h1, h2⟩ := l.1.items c
      obtain ⟨ys, h3, h4⟩ := l.2.1.items c
      obtain ⟨zs, h5, h6⟩ := l.2.2.items c
      obtain ⟨x, hx, _⟩ := h2.get (itemsOf_lt hi)
      obtain ⟨y, hy, _⟩ := h4.get (itemsOf_lt (hl ▸ hi))
      obtain ⟨z, hz, _⟩ := h6.get (itemsOf_lt (hl2 ▸ hi))
      exact ⟨xs, ys, zs, x, y, z, SqT.of h1, SqT.of h3, SqT.of h5, hx, hy, hz⟩
    · intro G H c l
      obtain ⟨xs, h1, h2⟩ := l.1.items c
      obtain ⟨ys, h3, h4⟩ := l.2.1.items c
      obtain ⟨zs, h5, h6⟩ := l.2.2.items c
      exact ⟨xs, ys, zs, SqT.of h1, SqT.of h3, SqT.of h5, h2.length, h4.length.trans hl, h6.length.trans hl2⟩
    · intro i G H v H' hi c l yl
      obtain ⟨xs, h1, h2⟩ := l.1.items c
      obtain ⟨ys, h3, h4⟩ := l.2.1.items c
      obtain ⟨zs, h5, h6⟩ := l.2.2.items c
      obtain ⟨T, x, y, z, ev, hT, e, y1, y2, y3⟩ := yl
      subst e; subst ev
      obtain ⟨d, hd, rd⟩ := h2.getV (y1 xs (SqT.of h1))
      obtain ⟨d2, hd2, rd2⟩ := h4.getV (y2 ys (SqT.of h3))
      obtain ⟨d3, hd3, rd3⟩ := h6.getV (y3 zs (SqT.of h5))
      have f := W.new (o := .tup [x, y, z]) c hT
      exact ⟨_, f, .tup upd_same (.cons (by rw [itemsOf_eq hd]; exact rd.mono f.gg) (.cons (by rw [itemsOf_eq hd2]; exact rd2.mono f.gg) (.cons (by rw [itemsOf_eq hd3]; exact rd3.mono f.gg) .nil)))⟩
end

/-! ### isinstance -/
inductive Kd | non | bl | int | str | lst | tup | dct
  deriving DecidableEq
def Kd.nm : Kd → String
  | .non => "NoneType" | .bl => "bool" | .int => "int" | .str => "str" | .lst => "list" | .tup => "tuple" | .dct => "dict"
def kdD : DD → Option Kd
  | .non => some .non | .bl _ => some .bl | .int _ => some .int | .str _ => some .str | .lst _ => some .lst | .tup _ => some .tup | .dT _ => some .dct | .dK _ => some .dct | .any _ => none
def kdS : Slot → Option Kd
  | .no => none
  | .dat d => kdD d
  | .seq _ _ => some .lst
theorem kit_int (k : Kd) : kitB k.nm "int" = some (decide (k = .int) || decide (k = .bl)) := by cases k <;> decide +kernel
theorem kit_bool (k : Kd) : kitB k.nm "bool" = some (decide (k = .bl)) := by cases k <;> decide +kernel
theorem kit_list (k : Kd) : kitB k.nm "list" = some (decide (k = .lst)) := by cases k <;> decide +kernel
theorem kit_tuple (k : Kd) : kitB k.nm "tuple" = some (decide (k = .tup)) := by cases k <;> decide +kernel
section
variable {W : Wd} {ρ : List Slot} {K : PySem.W.Frag} {P : Slot → Prop} {s : Slot} {k : Kd}
theorem slot_ty {G H : Hp} {x : V} (h : kdS s = some k) (v : VOk W G H x s) (g : Same G H) : TyX K H x (.type k.nm) := by
  cases s with
  | no => cases h
  | seq m ds =>
    cases h
    obtain ⟨l, xs, rfl, h1, _⟩ := v
    exact .base (.lst h1)
  | dat d =>
    cases d with
    | any v => cases h
    | non => cases h; cases v; exact .base .non
    | bl b => cases h; cases v; exact .base (.bl _)
    | int b => cases h; cases v; exact .base (.int _)
    | str b => cases h; cases v; exact .base (.str _)
    | lst ds =>
      cases h
      cases v with
      | lst h1 h2 => exact .base (.lst (g _ _ h1))
    | tup ds =>
      cases h
      cases v with
      | tup h1 h2 => exact .base (.tup (g _ _ h1))
    | dT ds =>
      cases h
      cases v with
      | dT h1 => exact .base (.dT (g _ _ h1))
    | dK ds =>
      cases h
      cases v with
      | dK h1 => exact .base (.dK (g _ _ h1))
theorem evp_any {v : V} (k : P (.dat (.any v))) : EvP W (tC v) ρ P := fun σ G H S Q q => q _ G H _ S.refl (vd (Rp.any v)) k
theorem cap_isi {c : String} {b : Bool} (hk : kdS s = some k) (hc : kitB k.nm c = some b) (p : P (.dat (.bl b))) : CaP W (rIsi K) [s, .dat (.any (.ty c))] P := fun G H xs cu v Q q => by
  obtain ⟨x, y, rfl, v1, v2⟩ := pair2 v
  cases v2
  exact ⟨x, .ty c, .type k.nm, .type c, b, rfl, .ty c, slot_ty hk v1 cu.gh, kit_ty hc, q _ G H _ (Fr.self cu) (vd (Rp.bl _)) p⟩
theorem cap_isi2 {c1 c2 : String} {b1 b2 : Bool} (hk : kdS s = some k) (hc1 : kitB k.nm c1 = some b1) (hc2 : kitB k.nm c2 = some b2) (p : P (.dat (.bl (b1 || b2)))) :
    CaP W (rIsiT K) [s, .dat (.tup [.any (.ty c1), .any (.ty c2)])] P := fun G H xs cu v Q q => by
  obtain ⟨x, y, rfl, v1, v2⟩ := pair2 v
  cases v2 with
  | @tup a ys _ h1 h2 =>
  cases h2 with
  | cons r1 h2 =>
  cases h2 with
  | cons r2 h2 =>
  cases h2; cases r1; cases r2
  refine ⟨x, a, [.ty c1, .ty c2], .type k.nm, [.type c1, .type c2], b1 || b2, rfl, cu.gh _ _ h1, .cons (.ty c1) (.cons (.ty c2) .nil), slot_ty hk v1 cu.gh, ?_, q _ G H _ (Fr.self cu) (vd (Rp.bl _)) p⟩
  exact kitAny_cons (kit_ty hc1) (fun e => kitAny_cons (kit_ty hc2) (fun e2 => by rw [e, e2]; exact kitAny_nil) (fun e2 => by rw [e2]; simp)) (fun e => by rw [e]; rfl)
end

/-! ### a list unpacked; unpacking in a statement -/
section
variable {W : Wd} {ρ : List Slot} {K : PySem.W.Frag} {P : List Slot → Prop} {vs : List Nat} {ds : List DD} {gs : TGs} {n : Nat}
theorem gap_unl (hn : ds.length = n) (h : GasP W gs vs ds ρ P) : GaP W (gUnl K n gs) vs (.dat (.lst ds)) ρ P := fun σ G H x S v Q q => by
  cases v with
  | @lst a xs _ h1 h2 => exact ⟨a, xs, rfl, SqL.of (S.cur.gh _ _ h1), h2.length.trans hn, h σ G H xs S h2 Q q⟩
end
/-! ### both sides at once -/
section
variable {W : Wd} {ρ : List Slot} {E : DE} {ta : TA} {i j l : Nat}
/-- a, b = e, f : data -/
theorem sd_par (h : EvA W ta ρ fun ss => ∃ d e, ss = [.dat d, .dat e] ∧ E.nx ((ρ.set i (.dat d)).set j (.dat e))) : SD W (tPar i j ta) ρ E := fun σ G H S D F =>
  h σ G H S _ fun xs G1 H1 ss f1 v1 ⟨d, e, es, p⟩ => by
    subst es
    obtain ⟨x, y, rfl, v1, v2⟩ := pair2 v1
    exact ⟨x, y, rfl, F.nx _ G1 H1 _ (((S.go f1).set v1).set v2) f1.gg p⟩
theorem sd_par3 (h : EvA W ta ρ fun ss => ∃ d e f, ss = [.dat d, .dat e, .dat f] ∧ E.nx (((ρ.set i (.dat d)).set j (.dat e)).set l (.dat f))) : SD W (tPar3 i j l ta) ρ E := fun σ G H S D F =>
  h σ G H S _ fun xs G1 H1 ss f1 v1 ⟨d, e, f, es, p⟩ => by
    subst es
    obtain ⟨x, y, z, rfl, v1, v2, v3⟩ := pair3 v1
    exact ⟨x, y, z, rfl, F.nx _ G1 H1 _ ((((S.go f1).set v1).set v2).set v3) f1.gg p⟩
/-- a, b = [..], [..] : two lists of the def's own -/
theorem sd_parOwn {te tf : TE} (hij : i ≠ j) (h : EvF W te ρ fun ds => EvF W tf ρ fun es => E.nx ((ρ.set i (.seq .own ds)).set j (.seq .own es))) : SD W (tPar i j (tCons te (tCons tf tNil))) ρ E := fun σ G H S D F =>
  h σ G H S _ fun p xs G2 H2 ds f hp gp h2 ra h' => h' σ G2 H2 (S.go f) _ fun p2 ys G3 H3 es f2 hp2 gp2 h3 ra2 k => by
    refine ⟨_, _, rfl, ?_⟩
    have S3 := (S.go f).go f2
    have nm : ¬ W.M p := W.nm S.cur hp
    have hp3 : H3 p = some (.lst xs) := f2.keep _ _ nm h2
    have gp3 : G3 p = none := f2.dom p (by rw [h2]; exact fun z => nomatch z) gp
    have fresh1 : ∀ (m : Nat) (md : Md) (fs : List DD), ρ[m]? = some (.seq md fs) → σ[m]? ≠ some (some (.ref p)) := fun m md fs hm hs => by
      obtain ⟨x, e1, l, ys, e2, e3, _⟩ := S.sl m _ hm (fun z => by cases z)
      rw [hs] at e1; cases e1; cases e2
      rw [hp] at e3; cases e3
    have S4 := S3.setOwn (i := i) hp3 gp3 (S.cur.fr p hp) nm (ra.mono f2.gg) fresh1
    refine F.nx _ G3 H3 _ (S4.setOwn (i := j) h3 gp2 ((S.go f).cur.fr p2 hp2) (W.nm (S.go f).cur hp2) ra2 fun m md fs hm hs => ?_) (f.gg.trans f2.gg) k
    obtain ⟨x, e1, l, zs, e2, e3, _⟩ := (S4.sl m _ hm (fun z => by cases z))
    rw [hs] at e1; cases e1; cases e2
    by_cases him : i = m
    · subst him
      by_cases hlt : i < σ.length
      · rw [List.getElem?_set_self hlt] at hs
        cases hs
        rw [h2] at hp2; cases hp2
      · rw [List.getElem?_eq_none (by simpa using hlt)] at hs; cases hs
    · rw [List.getElem?_set_ne him] at hm hs
      obtain ⟨x, e1, l2, zs2, e2, e4, _⟩ := (S.go f).sl m _ hm (fun z => by cases z)
      rw [hs] at e1; cases e1; cases e2
      rw [hp2] at e4; cases e4
end
end Dl

set_option Elab.async false
set_option linter.all false
set_option maxRecDepth 100000
set_option maxHeartbeats 1000000
/-! Tx: the text's defs, what stands where. -/
namespace Dl
open PySem PySem.Spec PyProof.Rows L2
def top (i : Nat) : Stmt := PySem.Challenge.pw_cancelsback_k43_whole_elders_take_nothin.main.body.getD i (.Pass ⟨0, 0, 0, 0⟩)
abbrev s_is_integer : Stmt := top 10
abbrev N_is_integer : List Str := ["value"]
theorem sc_is_integer : FnScope N_is_integer ["value"] (defScope s_is_integer) := ⟨rfl, rfl, rfl, by decide +kernel, rfl, by decide +kernel, by decide +kernel⟩
abbrev s_is_number : Stmt := top 11
abbrev N_is_number : List Str := ["value"]
theorem sc_is_number : FnScope N_is_number ["value"] (defScope s_is_number) := ⟨rfl, rfl, rfl, by decide +kernel, rfl, by decide +kernel, by decide +kernel⟩
abbrev s_is_below : Stmt := top 12
abbrev N_is_below : List Str := ["value", "many"]
theorem sc_is_below : FnScope N_is_below ["value", "many"] (defScope s_is_below) := ⟨rfl, rfl, rfl, by decide +kernel, rfl, by decide +kernel, by decide +kernel⟩
abbrev s_is_sequence : Stmt := top 13
abbrev N_is_sequence : List Str := ["value"]
theorem sc_is_sequence : FnScope N_is_sequence ["value"] (defScope s_is_sequence) := ⟨rfl, rfl, rfl, by decide +kernel, rfl, by decide +kernel, by decide +kernel⟩
abbrev s_is_letter : Stmt := top 14
abbrev N_is_letter : List Str := ["value"]
theorem sc_is_letter : FnScope N_is_letter ["value"] (defScope s_is_letter) := ⟨rfl, rfl, rfl, by decide +kernel, rfl, by decide +kernel, by decide +kernel⟩
abbrev s_is_signed : Stmt := top 15
abbrev N_is_signed : List Str := ["value"]
theorem sc_is_signed : FnScope N_is_signed ["value"] (defScope s_is_signed) := ⟨rfl, rfl, rfl, by decide +kernel, rfl, by decide +kernel, by decide +kernel⟩
abbrev s_need_word : Stmt := top 16
abbrev N_need_word : List Str := ["value", "at", "one"]
theorem sc_need_word : FnScope N_need_word ["value", "at"] (defScope s_need_word) := ⟨rfl, rfl, rfl, by decide +kernel, rfl, by decide +kernel, by decide +kernel⟩
abbrev s_turned : Stmt := top 17
abbrev N_turned : List Str := ["one"]
theorem sc_turned : FnScope N_turned ["one"] (defScope s_turned) := ⟨rfl, rfl, rfl, by decide +kernel, rfl, by decide +kernel, by decide +kernel⟩
abbrev s_struck_row : Stmt := top 18
abbrev N_struck_row : List Str := ["word", "left", "one"]
theorem sc_struck_row : FnScope N_struck_row ["word"] (defScope s_struck_row) := ⟨rfl, rfl, rfl, by decide +kernel, rfl, by decide +kernel, by decide +kernel⟩
abbrev s_is_text : Stmt := top 20
abbrev N_is_text : List Str := ["value", "one"]
theorem sc_is_text : FnScope N_is_text ["value"] (defScope s_is_text) := ⟨rfl, rfl, rfl, by decide +kernel, rfl, by decide +kernel, by decide +kernel⟩
abbrev s_need_text : Stmt := top 21
abbrev N_need_text : List Str := ["value", "at"]
theorem sc_need_text : FnScope N_need_text ["value", "at"] (defScope s_need_text) := ⟨rfl, rfl, rfl, by decide +kernel, rfl, by decide +kernel, by decide +kernel⟩
abbrev s_need_versions : Stmt := top 22
abbrev N_need_versions : List Str := ["value", "at", "text"]
theorem sc_need_versions : FnScope N_need_versions ["value"] (defScope s_need_versions) := ⟨rfl, rfl, rfl, by decide +kernel, rfl, by decide +kernel, by decide +kernel⟩
abbrev s_text_word : Stmt := top 23
abbrev N_text_word : List Str := ["text", "letter"]
theorem sc_text_word : FnScope N_text_word ["text"] (defScope s_text_word) := ⟨rfl, rfl, rfl, by decide +kernel, rfl, by decide +kernel, by decide +kernel⟩
abbrev s_word_text : Stmt := top 24
abbrev N_word_text : List Str := ["word", "left", "letter", "sign"]
theorem sc_word_text : FnScope N_word_text ["word"] (defScope s_word_text) := ⟨rfl, rfl, rfl, by decide +kernel, rfl, by decide +kernel, by decide +kernel⟩
abbrev s_is_step : Stmt := top 30
abbrev N_is_step : List Str := ["many", "before", "value", "one"]
theorem sc_is_step : FnScope N_is_step ["many", "before", "value"] (defScope s_is_step) := ⟨rfl, rfl, rfl, by decide +kernel, rfl, by decide +kernel, by decide +kernel⟩
abbrev s_need_plan : Stmt := top 31
abbrev N_need_plan : List Str := ["many", "value", "at", "step"]
theorem sc_need_plan : FnScope N_need_plan ["many", "value"] (defScope s_need_plan) := ⟨rfl, rfl, rfl, by decide +kernel, rfl, by decide +kernel, by decide +kernel⟩
abbrev s_step_counts : Stmt := top 32
abbrev N_step_counts : List Str := ["many", "plan", "rows", "step", "base", "mine", "yours", "one", "version", "other", "old"]
theorem sc_step_counts : FnScope N_step_counts ["many", "plan"] (defScope s_step_counts) := ⟨rfl, rfl, rfl, by decide +kernel, rfl, by decide +kernel, by decide +kernel⟩
abbrev s_plan_counts : Stmt := top 33
abbrev N_plan_counts : List Str := ["many", "plan"]
theorem sc_plan_counts : FnScope N_plan_counts ["many", "plan"] (defScope s_plan_counts) := ⟨rfl, rfl, rfl, by decide +kernel, rfl, by decide +kernel, by decide +kernel⟩
abbrev s_rows_word : Stmt := top 34
abbrev N_rows_word : List Str := ["texts", "row", "word", "at", "number", "one", "letter"]
theorem sc_rows_word : FnScope N_rows_word ["texts", "row"] (defScope s_rows_word) := ⟨rfl, rfl, rfl, by decide +kernel, rfl, by decide +kernel, by decide +kernel⟩
abbrev s_need_few_versions : Stmt := top 35
abbrev N_need_few_versions : List Str := ["value", "least", "most"]
theorem sc_need_few_versions : FnScope N_need_few_versions ["value", "least", "most"] (defScope s_need_few_versions) := ⟨rfl, rfl, rfl, by decide +kernel, rfl, by decide +kernel, by decide +kernel⟩
abbrev s_plan_texts : Stmt := top 36
abbrev N_plan_texts : List Str := ["texts", "plan", "found", "at", "step", "text"]
theorem sc_plan_texts : FnScope N_plan_texts ["texts", "plan"] (defScope s_plan_texts) := ⟨rfl, rfl, rfl, by decide +kernel, rfl, by decide +kernel, by decide +kernel⟩
abbrev s_elder_keys : Stmt := top 37
abbrev N_elder_keys : List Str := ["plan", "keys", "elders", "at", "step", "one", "key"]
theorem sc_elder_keys : FnScope N_elder_keys ["plan"] (defScope s_elder_keys) := ⟨rfl, rfl, rfl, by decide +kernel, rfl, by decide +kernel, by decide +kernel⟩
abbrev s_elder_fault : Stmt := top 38
abbrev N_elder_fault : List Str := ["many", "plan", "keys", "elders", "at", "step", "base", "one"]
theorem sc_elder_fault : FnScope N_elder_fault ["many", "plan"] (defScope s_elder_fault) := ⟨rfl, rfl, rfl, by decide +kernel, rfl, by decide +kernel, by decide +kernel⟩
abbrev s_elder_plan : Stmt := top 39
abbrev N_elder_plan : List Str := ["counts", "one", "row", "plan", "steps", "outcome", "at", "count", "turn", "step"]
theorem sc_elder_plan : FnScope N_elder_plan ["counts"] (defScope s_elder_plan) := ⟨rfl, rfl, rfl, by decide +kernel, rfl, by decide +kernel, by decide +kernel⟩
abbrev s__law_dealt : Stmt := top 41
abbrev N__law_dealt : List Str := ["_law_script", "_law_cell", "_law_cells", "_law_blend"]
theorem sc__law_dealt : FnScope N__law_dealt ["_law_script"] (defScope s__law_dealt) := ⟨rfl, rfl, rfl, by decide +kernel, rfl, by decide +kernel, by decide +kernel⟩
abbrev s__law_any : Stmt := top 42
abbrev N__law_any : List Str := ["_law_deal", "_law_bound", "_law_rest"]
theorem sc__law_any : FnScope N__law_any ["_law_deal", "_law_bound"] (defScope s__law_any) := ⟨rfl, rfl, rfl, by decide +kernel, rfl, by decide +kernel, by decide +kernel⟩
abbrev s__law_of : Stmt := top 43
abbrev N__law_of : List Str := ["_law_deal", "_law_some"]
theorem sc__law_of : FnScope N__law_of ["_law_deal", "_law_some"] (defScope s__law_of) := ⟨rfl, rfl, rfl, by decide +kernel, rfl, by decide +kernel, by decide +kernel⟩
abbrev s__law_mixed : Stmt := top 44
abbrev N__law_mixed : List Str := ["_law_deal", "_law_some", "_law_left", "_law_order"]
theorem sc__law_mixed : FnScope N__law_mixed ["_law_deal", "_law_some"] (defScope s__law_mixed) := ⟨rfl, rfl, rfl, by decide +kernel, rfl, by decide +kernel, by decide +kernel⟩
abbrev s__law_refused : Stmt := top 45
abbrev N__law_refused : List Str := ["_law_work", "error"]
theorem sc__law_refused : FnScope N__law_refused ["_law_work"] (defScope s__law_refused) := ⟨rfl, rfl, rfl, by decide +kernel, rfl, by decide +kernel, by decide +kernel⟩
abbrev s__law_elders : Stmt := top 46
abbrev N__law_elders : List Str := ["_law_plan_here", "_law_told", "_law_rows", "_law_at", "_law_row", "_law_one", "_law_same_here", "_law_elder"]
theorem sc__law_elders : FnScope N__law_elders ["_law_plan_here"] (defScope s__law_elders) := ⟨rfl, rfl, rfl, by decide +kernel, rfl, by decide +kernel, by decide +kernel⟩
abbrev s__law_same : Stmt := top 47
abbrev N__law_same : List Str := ["_law_plan_here", "_law_one", "_law_row", "_law_step"]
theorem sc__law_same : FnScope N__law_same ["_law_plan_here", "_law_one", "_law_row"] (defScope s__law_same) := ⟨rfl, rfl, rfl, by decide +kernel, rfl, by decide +kernel, by decide +kernel⟩
abbrev s__law_kin : Stmt := top 48
abbrev N__law_kin : List Str := ["_law_plan_here", "_law_rows", "_law_one", "_law_other"]
theorem sc__law_kin : FnScope N__law_kin ["_law_plan_here", "_law_rows", "_law_one", "_law_other"] (defScope s__law_kin) := ⟨rfl, rfl, rfl, by decide +kernel, rfl, by decide +kernel, by decide +kernel⟩
abbrev s__law_fault : Stmt := top 49
abbrev N__law_fault : List Str := ["_law_plan_here", "_law_rows", "_law_at", "_law_base", "_law_mine", "_law_yours"]
theorem sc__law_fault : FnScope N__law_fault ["_law_plan_here"] (defScope s__law_fault) := ⟨rfl, rfl, rfl, by decide +kernel, rfl, by decide +kernel, by decide +kernel⟩
abbrev s__law_plan : Stmt := top 50
abbrev N__law_plan : List Str := ["_law_deal", "_law_many", "_law_plan_here", "_law_loose", "_law_turn", "_law_mine", "_law_yours", "_law_rows", "_law_bases", "_law_one"]
theorem sc__law_plan : FnScope N__law_plan ["_law_deal", "_law_many"] (defScope s__law_plan) := ⟨rfl, rfl, rfl, by decide +kernel, rfl, by decide +kernel, by decide +kernel⟩
abbrev s__law_counts : Stmt := top 51
abbrev N__law_counts : List Str := ["_law_many", "_law_plan_here", "_law_rows", "_law_step", "_law_base", "_law_mine", "_law_yours", "_law_one"]
theorem sc__law_counts : FnScope N__law_counts ["_law_many", "_law_plan_here"] (defScope s__law_counts) := ⟨rfl, rfl, rfl, by decide +kernel, rfl, by decide +kernel, by decide +kernel⟩
abbrev s__law_kept : Stmt := top 52
abbrev N__law_kept : List Str := ["_law_many", "_law_plan_here", "_law_counts_here", "_law_rows", "_law_at", "_law_elder", "_law_one"]
theorem sc__law_kept : FnScope N__law_kept ["_law_many", "_law_plan_here"] (defScope s__law_kept) := ⟨rfl, rfl, rfl, by decide +kernel, rfl, by decide +kernel, by decide +kernel⟩
abbrev s__law_planned : Stmt := top 53
abbrev N__law_planned : List Str := ["_law_deal", "_law_counts_here", "_law_plan_here", "_law_many", "_law_rows", "_law_letter", "_law_base", "_law_more", "_law_texts", "_law_length", "_law_one", "_law_count", "_law_row"]
theorem sc__law_planned : FnScope N__law_planned ["_law_deal", "_law_counts_here"] (defScope s__law_planned) := ⟨rfl, rfl, rfl, by decide +kernel, rfl, by decide +kernel, by decide +kernel⟩
abbrev s__law_refusals : Stmt := top 54
abbrev N__law_refusals : List Str := ["_law_deal", "_law_many", "_law_plan_here", "_law_works", "_law_work", "_law_due", "_law_odd", "_law_wrong"]
theorem sc__law_refusals : FnScope N__law_refusals ["_law_deal", "_law_many", "_law_plan_here"] (defScope s__law_refusals) := ⟨rfl, rfl, rfl, by decide +kernel, rfl, by decide +kernel, by decide +kernel⟩
abbrev s_law : Stmt := top 55
abbrev N_law : List Str := ["_law_script", "_law_deal", "_law_earlier", "_law_turn", "_law_many", "_law_plan_here", "_law_handed", "_law_fault_here", "_law_due", "_law_counts_here", "_law_one", "_law_step"]
theorem sc_law : FnScope N_law ["_law_script"] (defScope s_law) := ⟨rfl, rfl, rfl, by decide +kernel, rfl, by decide +kernel, by decide +kernel⟩
/-- where the defs stand -/
structure Ads where
  is_integer : Addr
  is_number : Addr
  is_below : Addr
  is_sequence : Addr
  is_letter : Addr
  is_signed : Addr
  need_word : Addr
  turned : Addr
  struck_row : Addr
  is_text : Addr
  need_text : Addr
  need_versions : Addr
  text_word : Addr
  word_text : Addr
  is_step : Addr
  need_plan : Addr
  step_counts : Addr
  plan_counts : Addr
  rows_word : Addr
  need_few_versions : Addr
  plan_texts : Addr
  elder_keys : Addr
  elder_fault : Addr
  elder_plan : Addr
  _law_dealt : Addr
  _law_any : Addr
  _law_of : Addr
  _law_mixed : Addr
  _law_refused : Addr
  _law_elders : Addr
  _law_same : Addr
  _law_kin : Addr
  _law_fault : Addr
  _law_plan : Addr
  _law_counts : Addr
  _law_kept : Addr
  _law_planned : Addr
  _law_refusals : Addr
  law : Addr
  MergeError : Addr
  InvalidText : Addr
  InvalidVersions : Addr
  InvalidWord : Addr
  InvalidPlan : Addr
  Refused : Addr
  InvalidSize : Addr
/-- what the top has written -/
structure Txt (K : PySem.W.Frag) (mg : Str → Option Value) (A : Ads) : Prop where
  F_is_integer : ∃ fd, Fun K "is_integer" "is_integer" s_is_integer A.is_integer fd
  g_is_integer : mg "is_integer" = some (.ref A.is_integer)
  F_is_number : ∃ fd, Fun K "is_number" "is_number" s_is_number A.is_number fd
  g_is_number : mg "is_number" = some (.ref A.is_number)
  F_is_below : ∃ fd, Fun K "is_below" "is_below" s_is_below A.is_below fd
  g_is_below : mg "is_below" = some (.ref A.is_below)
  F_is_sequence : ∃ fd, Fun K "is_sequence" "is_sequence" s_is_sequence A.is_sequence fd
  g_is_sequence : mg "is_sequence" = some (.ref A.is_sequence)
  F_is_letter : ∃ fd, Fun K "is_letter" "is_letter" s_is_letter A.is_letter fd
  g_is_letter : mg "is_letter" = some (.ref A.is_letter)
  F_is_signed : ∃ fd, Fun K "is_signed" "is_signed" s_is_signed A.is_signed fd
  g_is_signed : mg "is_signed" = some (.ref A.is_signed)
  F_need_word : ∃ fd, FunD K "need_word" "need_word" (defArgs s_need_word) (defBody s_need_word) (defScope s_need_word) [.int (-1)] [] A.need_word fd
  g_need_word : mg "need_word" = some (.ref A.need_word)
  F_turned : ∃ fd, Fun K "turned" "turned" s_turned A.turned fd
  g_turned : mg "turned" = some (.ref A.turned)
  F_struck_row : ∃ fd, Fun K "struck_row" "struck_row" s_struck_row A.struck_row fd
  g_struck_row : mg "struck_row" = some (.ref A.struck_row)
  F_is_text : ∃ fd, Fun K "is_text" "is_text" s_is_text A.is_text fd
  g_is_text : mg "is_text" = some (.ref A.is_text)
  F_need_text : ∃ fd, FunD K "need_text" "need_text" (defArgs s_need_text) (defBody s_need_text) (defScope s_need_text) [.int (-1)] [] A.need_text fd
  g_need_text : mg "need_text" = some (.ref A.need_text)
  F_need_versions : ∃ fd, Fun K "need_versions" "need_versions" s_need_versions A.need_versions fd
  g_need_versions : mg "need_versions" = some (.ref A.need_versions)
  F_text_word : ∃ fd, Fun K "text_word" "text_word" s_text_word A.text_word fd
  g_text_word : mg "text_word" = some (.ref A.text_word)
  F_word_text : ∃ fd, Fun K "word_text" "word_text" s_word_text A.word_text fd
  g_word_text : mg "word_text" = some (.ref A.word_text)
  F_is_step : ∃ fd, Fun K "is_step" "is_step" s_is_step A.is_step fd
  g_is_step : mg "is_step" = some (.ref A.is_step)
  F_need_plan : ∃ fd, Fun K "need_plan" "need_plan" s_need_plan A.need_plan fd
  g_need_plan : mg "need_plan" = some (.ref A.need_plan)
  F_step_counts : ∃ fd, Fun K "step_counts" "step_counts" s_step_counts A.step_counts fd
  g_step_counts : mg "step_counts" = some (.ref A.step_counts)
  F_plan_counts : ∃ fd, Fun K "plan_counts" "plan_counts" s_plan_counts A.plan_counts fd
  g_plan_counts : mg "plan_counts" = some (.ref A.plan_counts)
  F_rows_word : ∃ fd, Fun K "rows_word" "rows_word" s_rows_word A.rows_word fd
  g_rows_word : mg "rows_word" = some (.ref A.rows_word)
  F_need_few_versions : ∃ fd, Fun K "need_few_versions" "need_few_versions" s_need_few_versions A.need_few_versions fd
  g_need_few_versions : mg "need_few_versions" = some (.ref A.need_few_versions)
  F_plan_texts : ∃ fd, Fun K "plan_texts" "plan_texts" s_plan_texts A.plan_texts fd
  g_plan_texts : mg "plan_texts" = some (.ref A.plan_texts)
  F_elder_keys : ∃ fd, Fun K "elder_keys" "elder_keys" s_elder_keys A.elder_keys fd
  g_elder_keys : mg "elder_keys" = some (.ref A.elder_keys)
  F_elder_fault : ∃ fd, Fun K "elder_fault" "elder_fault" s_elder_fault A.elder_fault fd
  g_elder_fault : mg "elder_fault" = some (.ref A.elder_fault)
  F_elder_plan : ∃ fd, Fun K "elder_plan" "elder_plan" s_elder_plan A.elder_plan fd
  g_elder_plan : mg "elder_plan" = some (.ref A.elder_plan)
  F__law_dealt : ∃ fd, Fun K "_law_dealt" "_law_dealt" s__law_dealt A._law_dealt fd
  g__law_dealt : mg "_law_dealt" = some (.ref A._law_dealt)
  F__law_any : ∃ fd, Fun K "_law_any" "_law_any" s__law_any A._law_any fd
  g__law_any : mg "_law_any" = some (.ref A._law_any)
  F__law_of : ∃ fd, Fun K "_law_of" "_law_of" s__law_of A._law_of fd
  g__law_of : mg "_law_of" = some (.ref A._law_of)
  F__law_mixed : ∃ fd, Fun K "_law_mixed" "_law_mixed" s__law_mixed A._law_mixed fd
  g__law_mixed : mg "_law_mixed" = some (.ref A._law_mixed)
  F__law_refused : ∃ fd, Fun K "_law_refused" "_law_refused" s__law_refused A._law_refused fd
  g__law_refused : mg "_law_refused" = some (.ref A._law_refused)
  F__law_elders : ∃ fd, Fun K "_law_elders" "_law_elders" s__law_elders A._law_elders fd
  g__law_elders : mg "_law_elders" = some (.ref A._law_elders)
  F__law_same : ∃ fd, Fun K "_law_same" "_law_same" s__law_same A._law_same fd
  g__law_same : mg "_law_same" = some (.ref A._law_same)
  F__law_kin : ∃ fd, Fun K "_law_kin" "_law_kin" s__law_kin A._law_kin fd
  g__law_kin : mg "_law_kin" = some (.ref A._law_kin)
  F__law_fault : ∃ fd, Fun K "_law_fault" "_law_fault" s__law_fault A._law_fault fd
  g__law_fault : mg "_law_fault" = some (.ref A._law_fault)
  F__law_plan : ∃ fd, Fun K "_law_plan" "_law_plan" s__law_plan A._law_plan fd
  g__law_plan : mg "_law_plan" = some (.ref A._law_plan)
  F__law_counts : ∃ fd, Fun K "_law_counts" "_law_counts" s__law_counts A._law_counts fd
  g__law_counts : mg "_law_counts" = some (.ref A._law_counts)
  F__law_kept : ∃ fd, Fun K "_law_kept" "_law_kept" s__law_kept A._law_kept fd
  g__law_kept : mg "_law_kept" = some (.ref A._law_kept)
  F__law_planned : ∃ fd, Fun K "_law_planned" "_law_planned" s__law_planned A._law_planned fd
  g__law_planned : mg "_law_planned" = some (.ref A._law_planned)
  F__law_refusals : ∃ fd, Fun K "_law_refusals" "_law_refusals" s__law_refusals A._law_refusals fd
  g__law_refusals : mg "_law_refusals" = some (.ref A._law_refusals)
  F_law : ∃ fd, Fun K "law" "law" s_law A.law fd
  g_law : mg "law" = some (.ref A.law)
  g_MergeError : mg "MergeError" = some (.ref A.MergeError)
  g_InvalidText : mg "InvalidText" = some (.ref A.InvalidText)
  g_InvalidVersions : mg "InvalidVersions" = some (.ref A.InvalidVersions)
  g_InvalidWord : mg "InvalidWord" = some (.ref A.InvalidWord)
  g_InvalidPlan : mg "InvalidPlan" = some (.ref A.InvalidPlan)
  g_Refused : mg "Refused" = some (.ref A.Refused)
  g_InvalidSize : mg "InvalidSize" = some (.ref A.InvalidSize)
  n_all : mg "all" = none
  n_bool : mg "bool" = none
  n_enumerate : mg "enumerate" = none
  n_int : mg "int" = none
  n_isinstance : mg "isinstance" = none
  n_len : mg "len" = none
  n_list : mg "list" = none
  n_min : mg "min" = none
  n_range : mg "range" = none
  n_repr : mg "repr" = none
  n_set : mg "set" = none
  n_sorted : mg "sorted" = none
  n_sum : mg "sum" = none
  n_tuple : mg "tuple" = none
  n_zip : mg "zip" = none
  c_MANY_LETTERS : ∃ t, mg "MANY_LETTERS" = some (.int 100 t)
  c_MOST_COUNTED : ∃ t, mg "MOST_COUNTED" = some (.int 9 t)
  c_MOST_ELDERS : ∃ t, mg "MOST_ELDERS" = some (.int 5 t)
  c_MOST_STEPS : ∃ t, mg "MOST_STEPS" = some (.int 20 t)
  c_MOST_VERSIONS : ∃ t, mg "MOST_VERSIONS" = some (.int 12 t)
theorem pe_const {X : Cx} {x : Str} {i : Int} {pos : Pos} (hg : Gl X x) (h : ∃ t, X.mg x = some (.int i t)) (hd : (x == ("__debug__" : Str)) = false := by decide) : PE X (.Name x pos) (tC (.int i)) := by
  obtain ⟨t, ht⟩ := h
  exact pe_glob hg ht ⟨t, rfl⟩ hd
/-- a def as its callers see it -/
def FD (P : Program) (w : World) (K : PySem.W.Frag) (mg : Str → Option Value) (base : Heap) (CX : CXT) (k : Nat) (f : Addr) (ps : List Str) (sp : Sp) : Prop := PySem.W.keepIn K (.ref f) = true ∧ ∃ fd, FnOk P w K mg base CX k f fd ps sp ∧ Binds K fd ps []
end Dl

set_option Elab.async false
set_option linter.all false
set_option maxRecDepth 100000
set_option maxHeartbeats 1000000
/-! D7: short words. -/
namespace Dl
open PySem PySem.Spec PyProof.Rows L2
theorem ne_no {s : Slot} {k : Kd} (h : kdS s = some k) : s ≠ .no := fun z => by subst z; cases h
theorem kd_lend {s : Slot} : kdS (lend s) = kdS s := by
  cases s with
  | seq m ds => cases m <;> rfl
  | _ => rfl
theorem kd_arg {s : Slot} : kdS (toArg s) = kdS s := by
  cases s <;> rfl
theorem seqS_lend {s : Slot} {ds : List DD} (h : SeqS s ds) : SeqS (lend s) ds := by
  cases h with
  | lst => exact .lst ds
  | tup => exact .tup ds
  | seq m => cases m <;> exact .seq _ ds
theorem seqS_arg {s : Slot} {ds : List DD} (h : SeqS s ds) : SeqS (toArg s) ds := by
  cases h with
  | lst => exact .lst ds
  | tup => exact .tup ds
  | seq m => exact .seq _ ds
def datAll : List Slot → Option (List DD)
  | [] => some []
  | .dat d :: r => (datAll r).map (d :: ·)
  | _ :: _ => none
theorem datAll_map : ∀ {ss : List Slot} {ds : List DD}, datAll ss = some ds → ss = ds.map .dat
  | [], ds, h => by cases h; rfl
  | .dat d :: r, ds, h => by
    unfold datAll at h
    cases e : datAll r with
    | none => rw [e] at h; cases h
    | some es =>
      rw [e] at h
      cases h
      rw [datAll_map e]; rfl
  | .no :: r, ds, h => by cases h
  | .seq _ _ :: r, ds, h => by cases h
section
variable {W : Wd} {ρ : List Slot} {P : Slot → Prop} {PL : List DD → Prop} {t : TA}
theorem evp_tupD (h : EvA W t ρ fun ss => ∃ ds : List DD, datAll ss = some ds ∧ ds.length ≤ 100000 ∧ P (.dat (.tup ds))) : EvP W (tTup t) ρ P := evp_tup fun σ G H S Q q =>
  h σ G H S Q fun xs G2 H2 ss f v ⟨ds, e, l, p⟩ => q xs G2 H2 ss f v ⟨ds, datAll_map e, l, p⟩
theorem evf_lstD (h : EvA W t ρ fun ss => ∃ ds : List DD, datAll ss = some ds ∧ ds.length ≤ 100000 ∧ PL ds) : EvF W (tLst t) ρ PL := evf_lst fun σ G H S Q q =>
  h σ G H S Q fun xs G2 H2 ss f v ⟨ds, e, l, p⟩ => q xs G2 H2 ss f v ⟨ds, datAll_map e, l, p⟩
theorem evp_arg {i : Nat} {s : Slot} {k : Kd} (h : ρ[i]? = some s) (n : kdS s = some k) (p : P (lend s)) : EvP W (tVar i) ρ P := evp_var h (ne_no n) p
theorem evp_isv {i : Nat} (h : EvP W (tVar i) ρ P) : EvP W (tVar i) ρ P := h
theorem evp_imp2 {te : TE} {P P' : Slot → Prop} (h : EvP W te ρ P) (k : ∀ s, P s → P' s) : EvP W te ρ P' := h.imp k
end
theorem ex_bl {b : Bool} {Q : Bool → Prop} (h : Q b) : ∃ a, Slot.dat (.bl b) = .dat (.bl a) ∧ Q a := ⟨b, rfl, h⟩
theorem ex_dat {d : DD} {Q : DD → Prop} (h : Q d) : ∃ e, Slot.dat d = .dat e ∧ Q e := ⟨d, rfl, h⟩
theorem ex_int {i : Int} {Q : Int → Prop} (h : Q i) : ∃ e, Slot.dat (.int i) = .dat (.int e) ∧ Q e := ⟨i, rfl, h⟩
theorem no_mut : ∀ H H' : Hp, AnyJ H → (∀ a, NoM a → H' a = H a) → AnyJ H' := fun _ _ _ _ => trivial
theorem no_mut2 : ∀ (H : Hp) (a : Addr), AnyJ H → NoM a → H a ≠ none := fun _ _ _ h => h.elim
end Dl

set_option Elab.async false
set_option linter.all false
set_option maxRecDepth 100000
set_option maxHeartbeats 1000000
/-! R2: an own error whose __init__ says super().__init__('..') and stores one field; a class of its own between it and Exception. -/
namespace Dl
open PySem PySem.W PySem.Calls PySem.Spec PyProof.Rows L2
open Builtin.ObjectAttr

section
variable {prog : Program} {w : World} {A : Around} {E : Value → Shared → Prop} {R : Result → Shared → Prop} {hp : Heap} {g : Array GenState} {d : Drawn} {t : Nat} {os : OsState}
/-- self.name = v on an exception that has no dict yet -/
theorem exc_osaE {K : Frag} {name : Str} {tk : Tok} {v : Value} {x C : Addr} {fv : Array Value} {cd : ClassData} {bm : List Value}
    (X : K.In hp) (hx : hp.get? x = some { cls := .ref C, data := .fields fv }) (hcd : clsIn K C = some cd) (hm : cd.mro = .ref C :: bm) (ht : excTail ESX.exTail bm = true) (hh : cd.hasDict = true) (ha : findIn K (.ref C) name = some none)
    (hq : ∀ h' tk' dx, (∀ b o, b ≠ x → hp.get? b = some o → h'.get? b = some o) → hp.objs.size ≤ dx → dx ≠ x → h'.get? x = some { cls := .ref C, dict := some dx, data := .fields fv } →
      h'.Ns1 dx (fun y => if y = name then some v else none) → R (.ok (.ret .none)) ⟨h', g, d, tk', os⟩) :
    codeAny (model prog w) A (.call (.builtin "object.__setattr__") ⟨[.ref x, .str name tk, v], []⟩) R ⟨hp, g, d, t, os⟩ := by
  have I : InstAt hp x { cls := .ref C, data := .fields fv } C none := ⟨hx, rfl, rfl, trivial⟩
  have SF := F.store_object
  have ne : cd.mro.isEmpty = false := by rw [hm]; rfl
  have hob : cd.mro.contains (.type "object") = true := by
    rw [hm, List.contains_cons, excTail_contains "object" _ ht, show ESX.exTail.contains (.type "object") = true by decide +kernel, Bool.or_true]
  have hxs : x ≠ hp.objs.size := Nat.ne_of_lt (Heap.lt_size hx)
  have sub : Looks (model prog w) hp (isInstance (.ref x) (.type "object")) true := I.type.andThen (looks_mroIn X (by unfold mroIn; rw [hcd, Option.bind_some, if_neg (by rw [ne]; decide), hob]))
  refine codeAny_call_builtin SF.slot.plain SF.entry (@check_slot (model prog w) _ _ ⟨hp, g, d, t, os⟩ "object.__setattr__" "object" "__setattr__" (.ref x) [.str name tk, v] [] _ SF.kind SF.split sub (SF.args (.ref x) (.str name tk) v) ?_)
  have hmr : Looks (model prog w) hp (mroOf (.ref C)) cd.mro := (looks_clsIn X hcd).andThen .now
  have L3 : Looks (model prog w) hp (storeTaker? none) none := .now
  have hcls : Looks (model prog w) hp (classData C) cd := looks_clsIn X hcd
  rw [osa_eq, refuse_eq]
  refine wpAny_bind (wpAny_bind (I.type.at (wpAny_bind (hmr.at ?_))))
  rw [hm, refuseLoop_ref, excTail_pass _ (F.store_Exception.passes _) _ ht]
  refine wpAny_pure (wpAny_bind (I.type.at (wpAny_bind ((looks_findIn X ha).at (wpAny_bind (L3.at ?_))))))
  show wpAny _ _ (storeInOwnDict (.ref x) (.ref C) (.str name tk) name v false) _ _ _
  obtain ⟨nm, bs, mro, ns, qn, hd, sn, sb, ab, col, del⟩ := cd
  dsimp only at hh
  subst hh
  unfold storeInOwnDict ownDictForStores
  repeat (first | with_reducible refine HandSPX.store_in_new ?_ ?_ | with_reducible refine wpAny_loadPart_at hx ?_ | with_reducible refine hcls.at ?_ | wp_step)
  · exact ⟨_, #[], _, (Heap.get?_update_ne _ _ _ _ hxs.symm).trans (Heap.get?_push_at rfl rfl), rfl, fun e he => absurd he (by simp), fun _ => rfl⟩
  · intro h' tk' hn' hs
    have hx₁ : (hp.push { cls := .type "dict", data := .dict #[] }).get? x = some { cls := .ref C, data := .fields fv } := Heap.get?_push_of_some _ hx
    refine hq h' tk' hp.objs.size (fun b o hb ho => ?_) (Nat.le_refl _) hxs.symm ?_ hn'
    · exact (hs.2 b (Nat.ne_of_lt (Heap.lt_size ho))).trans ((Heap.get?_update_ne _ _ _ _ hb).trans (Heap.get?_push_of_some _ ho))
    · exact (hs.2 x hxs).trans (Heap.get?_update_self _ hx₁ rfl)
end

abbrev supCall (msg : Str) (j : Nat) (p0 p1 p2 p3 p4 : Pos) : Expr := .Call (.Attribute (.Call (.Name "super" p0) [] [] p1) "__init__" p2) [.Constant (.str msg) j p3] [] p4
abbrev errBody (f msg : Str) (j : Nat) (p0 p1 p2 p3 p4 p5 p6 p7 p8 p9 : Pos) : List Stmt := [.Expr (supCall msg j p0 p1 p2 p3 p4) p5, .Assign [.Attribute (.Name "self" p6) f p7] (.Name f p8) p9]
/-- how the call of super().__init__ reads -/
def SupReads (msg : Str) (j : Nat) (p0 p1 p2 p3 p4 p5 : Pos) (env : Env) : Prop := (∃ pl, eval (supCall msg j p0 p1 p2 p3 p4) env = (do
      let ov ← attributeBase (.Call (.Name "super" p0) [] [] p1) "__init__" env (eval (.Call (.Name "super" p0) [] [] p1) env)
      standAt p2.atName
      let (f, first) ← holding [ov] (getMethod ov "__init__" pl)
      callWith p4 f first (backTo p4 (starEach [.Constant (.str msg) j p3] env)) [])) ∧ swapsWith (supCall msg j p0 p1 p2 p3 p4) none p5.line env = pure false ∧
  starEach [.Constant (.str msg) j p3] env = (false, eval (.Constant (.str msg) j p3) env) :: starEach [] env ∧ (backTo p4 (starEach [] env)).any (·.1) = false ∧ interactive env = false
def StoReads (f : Str) (p6 p7 p8 p9 : Pos) (env : Env) : Prop := swapsWith (.Name f p8) (some (.Attribute (.Name "self" p6) f p7)) p9.line env = pure false
/-- what the written part says of such a class: C, its field f -/
structure ErrC (prog : Program) (K : Frag) (mg : Str → Option Value) (C : Addr) (f : Str) : Prop where
  cls : ∃ nm q N bs bm sn sub ab col dd k0 k1 k2 k3 k5, K.lookup C = some (excClassObj nm q C N bs bm true sn sub ab col dd k0 k1 k2 k3 k5 "Exception.__new__") ∧ excTail ESX.exTail bm = true
  ini : ∃ (fI cc cda : Addr) (q : Str) (ar ar2 : Arg) (msg : Str) (j : Nat) (p0 p1 p2 p3 p4 p5 p6 p7 p8 p9 : Pos) (scope : Scope) (params : Arguments) (dV kV doc pm ct oc ccl cl : Value) (an od cdd cld : Option Addr) (osl ccs csl : Array (Option Value)) (vs : Array Value) (file : Str) (tf : Tok),
    findIn K (.ref C) "__init__" = some (some (.ref fI)) ∧ typeIn K (.ref fI) = some (.type "function") ∧
    K.lookup fI = some ⟨oc, od, .func (ksFn "__init__" q params (errBody f msg j p0 p1 p2 p3 p4 p5 p6 p7 p8 p9) scope dV kV doc pm an (.ref cda) ct cc), osl⟩ ∧
    codeIn K (.ref cda) q = true ∧ scope.names.lookup ("self" : Str) = some .local ∧ scope.names.lookup f = some .local ∧ scope.names.lookup ("super" : Str) = some .globalImplicit ∧ scope.names.lookup ("__class__" : Str) = some .free ∧ (∀ x ∈ scope.names, x.2 ≠ .cell) ∧ scope.kind = .function ∧ scope.isCoroutine = false ∧ scope.isGenerator = false ∧
    (params.posonlyargs ++ params.args).head? = some ar ∧ ar.arg = "self" ∧ K.lookup cda = some ⟨ccl, cdd, .fields vs, ccs⟩ ∧ vs[2]? = some (.str file tf) ∧ ((prog.main.file : Str) == file) = true ∧
    K.lookup cc = some ⟨cl, cld, .cell (some (.ref C)), csl⟩ ∧
    (∀ (s : Shared) (us : List Value), K.In s.heap → us.length = 2 → BindsTo s (ksFn "__init__" q params (errBody f msg j p0 p1 p2 p3 p4 p5 p6 p7 p8 p9) scope dV kV doc pm an (.ref cda) ct cc) ⟨us, []⟩ ([("self" : Str), f].zip us)) ∧
    ∀ L, SupReads msg j p0 p1 p2 p3 p4 p5 (callEnv (ksFn "__init__" q params (errBody f msg j p0 p1 p2 p3 p4 p5 p6 p7 p8 p9) scope dV kV doc pm an (.ref cda) ct cc) L fI) ∧ StoReads f p6 p7 p8 p9 (callEnv (ksFn "__init__" q params (errBody f msg j p0 p1 p2 p3 p4 p5 p6 p7 p8 p9) scope dV kV doc pm an (.ref cda) ct cc) L fI)
  sa : findIn K (.ref C) "__setattr__" = some (some (.builtin "object.__setattr__"))
  exC : subIn K (.ref C) (.type "BaseException") = some true
  exE : subIn K (.ref C) (.type "Exception") = some true
  subC : mroIn K C (.ref C) = some true
  tyC : typeIn K (.ref C) = some (.type "type")
  kC : keepIn K (.ref C) = true
  no : findIn K (.ref C) f = some none
  sup : ks_superIn K C C "__init__" = some (some (.builtin "Exception.__init__"))
  opq : nsIn K cStatics "thirdparty.any" = some none
  super : mg "super" = none
  top : (prog.main.scope.names.lookup ("super" : Str)).isSome = false
  fd : (f == ("__debug__" : Str)) = false
  fc : (f == ("__classdict__" : Str)) = false
  fs : f ≠ ("self" : Str)
section
variable {prog : Program} {w : World} {A : Around} {R : Result → Shared → Prop} {s : Shared} {K : Frag} {mg : Str → Option Value} {base : Heap} {C e t0 : Addr} {f : Str} {v : Value}
/-- its __init__ runs -/
theorem err_init {fI : Addr} (T : ErrC prog K mg C f) (hI : findIn K (.ref C) "__init__" = some (some (.ref fI))) (M : Mod K mg base) (bk : ∀ b o, base.get? b = some o → s.heap.get? b = some o) (hroom : A.depth < recursionLimit)
    (he : s.heap.get? e = some (HandSPX.excO C t0)) (heb : base.get? e = none)
    (hq : ∀ h' tk' t1 dx, (∀ b o, b ≠ e → s.heap.get? b = some o → h'.get? b = some o) → h'.get? e = some { cls := .ref C, dict := some dx, data := .fields #[.ref t1, .none, .none, .none, .bool false, .none] } → s.heap.objs.size ≤ dx →
      h'.Ns1 dx (fun y => if y = f then some v else none) → R (.ok (.ret .none)) { s with heap := h', toks := tk' }) :
    codeAny (model prog w) A (.call (.ref fI) ⟨[.ref e, v], []⟩) R s := by
  obtain ⟨fI', cc, cda, q, ar, ar2, msg, j, p0, p1, p2, p3, p4, p5, p6, p7, p8, p9, scope, params, dV, kV, doc, pm, ct, oc, ccl, cl, an, od, cdd, cld, osl, ccs, csl, vs, file, tf, hI', tI, lk, hcd, l1, l2, l3, l4, hnc, hkd, hco, hgen, hhd, har, hcda, hvs, hfile, hcell, hbind, hreads⟩ := T.ini
  rw [hI] at hI'; cases hI'
  have KX : K.In s.heap := M.kin.keeps bk
  have lim : s.heap.NoLimit := M.nolimit.keeps bk
  have X1 := KX
  obtain ⟨nm, qc, N, bs, bm, sn, sub, ab, col, dd, k0, k1, k2, k3, k5, hC, hbm⟩ := T.cls
  have hcl : clsIn K C = some { name := nm, bases := bs, mro := .ref C :: bm, ns := N, qualname := qc, hasDict := true, slotNames := sn, subclasses := sub, abstract := ab, collection := col, hasDel := false } := by unfold clsIn; rw [hC] <;> rfl
  refine ks_codeAny_call_defAt (binds := [("self" : Str), f].zip [.ref e, v]) hroom (KX _ _ lk) rfl lim (codeRec_of KX hcd) rfl (hbind _ [.ref e, v] KX rfl) ?cell ?loc (fun h₁ hns hk₁ => ?run) hco hgen hkd
  case cell => exact hnc
  case loc =>
    intro x hx
    simp only [List.zip_cons_cons, List.zip_nil_right, List.mem_cons, List.not_mem_nil, or_false] at hx
    rcases hx with h | h
    · rw [h]; exact l1
    · rw [h]; exact l2
  case run =>
    have k1' := hk₁
    obtain ⟨hp, g, d, t, os⟩ := s
    have keepB : ∀ b o, base.get? b = some o → h₁.get? b = some o := fun b o z => hk₁ b o (bk b o z)
    have KX1 : K.In h₁ := M.kin.keeps keepB
    obtain ⟨oD, hD1, hD2⟩ : ∃ oD, h₁.get? C = some oD ∧ ∃ cd, oD.data = .cls cd := ⟨_, KX1 _ _ hC, _, rfl⟩
    obtain ⟨cdD, hD2⟩ := hD2
    have he1 : h₁.get? e = some (HandSPX.excO C t0) := hk₁ _ _ he
    have eC : e ≠ C := fun z => by
      subst z
      rw [KX1 _ _ hC] at he1
      cases he1
    obtain ⟨mb, hb1, hb2⟩ := M.blt
    obtain ⟨⟨⟨pl, hcall⟩, hsw, hst, hbk, hint⟩, hsto⟩ := hreads hp.objs.size
    have Lself : ∀ {Q : Value → Shared → Prop} {E : Value → Shared → Prop} {A : Around} {hh : Heap} {t : Nat}, hh.Ns hp.objs.size (fun x => ([("self", .ref e), (f, v)] : List (Str × Value)).reverse.lookup x) → Q (.ref e) ⟨hh, g, d, t, os⟩ →
        wpAny (model prog w) A (loadName (callEnv (ksFn "__init__" q params (errBody f msg j p0 p1 p2 p3 p4 p5 p6 p7 p8 p9) scope dV kV doc pm an (.ref cda) ct cc) hp.objs.size fI) "self") Q E ⟨hh, g, d, t, os⟩ := fun hns h =>
      wpAny_loadName_local hkd l1 hns (by
        show (match ("self" : Str) == f with | true => some v | false => _) = _
        rw [show (("self" : Str) == f) = false from beq_eq_false_iff_ne.mpr (Ne.symm T.fs)]
        rfl) h
    have Lf : ∀ {Q : Value → Shared → Prop} {E : Value → Shared → Prop} {A : Around} {hh : Heap} {t : Nat}, hh.Ns hp.objs.size (fun x => ([("self", .ref e), (f, v)] : List (Str × Value)).reverse.lookup x) → Q v ⟨hh, g, d, t, os⟩ →
        wpAny (model prog w) A (loadName (callEnv (ksFn "__init__" q params (errBody f msg j p0 p1 p2 p3 p4 p5 p6 p7 p8 p9) scope dV kV doc pm an (.ref cda) ct cc) hp.objs.size fI) f) Q E ⟨hh, g, d, t, os⟩ := fun hns h =>
      wpAny_loadName_local hkd l2 hns (by
        show (match f == f with | true => some v | false => _) = _
        rw [beq_self_eq_true]) h
    refine ks_wpAt_execs_cons (ks_wpAt_Expr_any (ks_wpAt_MethodCall (pl := pl) (ks_wpAt_super_base l3 l4 rfl rfl (KX1 _ _ lk) rfl hhd rfl (KX1 _ _ hcda) rfl hvs hfile T.top ?_) hcall) hint hsw)
    -- super, __class__, self
    refine ks_loadName_global hkd l3 (loadGlobal_builtin (M.glob.keeps keepB) T.super (hb1.keeps keepB) ((hb2 _ (by decide)).trans (show bootBuiltins "super" = some (.type "super") by decide +kernel)) ⟨rfl, ?_⟩)
    refine wpAny_loadName_free hkd l4 rfl ⟨_, KX1 _ _ hcell, rfl⟩ ?_
    rw [har]
    refine Lself hns ?_
    refine ks_wpAny_isType_cls hD1 hD2 ⟨rfl, ?_⟩
    refine ks_wpAny_call_super hD1 hD2 he1 rfl (fun c z => nomatch z) (looks_mroIn KX1 T.subC) (fun h₂ hso k2 => ?_)
    have KX2 : K.In h₂ := KX1.keeps k2
    have I2 : InstAt h₂ e (HandSPX.excO C t0) C none := ⟨k2 _ _ he1, rfl, rfl, trivial⟩
    have hf : alongIn K "__init__" (((Value.ref C :: bm).dropWhile (· != .ref C)).drop 1) = some (some (.builtin "Exception.__init__")) := by
      have z := T.sup
      unfold ks_superIn at z
      rw [hcl] at z
      exact z
    refine ESX.getMethod_super (D := C) (x := e) (C := C) (l₀ := .ref C :: bm) hso (looks_opaque KX2 T.opq) ((looks_clsIn KX2 hcl).andThen .now) rfl KX2 hf eC (by decide) (I2.type.andThen (looks_subIn KX2 T.exE)) ?_
    refine ESX.callWith_bound (x := e) ?_ hst hbk
    refine spliced_more (wpAny_Constant_str (spliced_none ?_)) hst
    refine ⟨Heap.get?_push_size _ rfl, ?_⟩
    refine ESX.call_bw (Heap.get?_push_of_some _ (KX2 _ _ hC)) (Heap.get?_push_of_some _ (k2 _ _ he1)) (Heap.get?_push_size _ rfl) (by show 1 ≤ sizeLine; decide) fun h₃ t3 k3 he3 => ?_
    have k13 : ∀ b o, b ≠ e → h₁.get? b = some o → h₃.get? b = some o := fun b o hb z => k3 b o hb (Heap.get?_push_of_some _ (k2 _ _ z))
    have KX3 : K.In h₃ := fun b o z => k13 b o (fun y => by
      subst y
      have z2 := M.kin _ _ z
      rw [heb] at z2
      cases z2) (KX1 _ _ z)
    have Le : hp.objs.size ≠ e := Nat.ne_of_gt (Heap.lt_size he)
    have hns3 : h₃.Ns hp.objs.size (fun x => ([("self", .ref e), (f, v)] : List (Str × Value)).reverse.lookup x) := by
      obtain ⟨o, es, ep, ho, r⟩ := hns
      exact ⟨o, es, ep, k13 _ _ Le ho, r⟩
    have L3 : hp.objs.size < h₃.objs.size := by
      obtain ⟨o, es, ep, ho, r⟩ := hns3
      exact Heap.lt_size ho
    refine ks_wpAt_execs_cons (ks_wpAt_Assign_Attr (wpAt_of_wpAny (wpAny_Name (Lf hns3 (wpAny_Name (Lself hns3 ?_) (by decide))) T.fd)) hsto)
    refine set_plain (ox := { cls := .ref C, dict := none, data := .fields #[.ref t3, .none, .none, .none, .bool false, .none] }) (od := none) KX3 ⟨he3, rfl, rfl, trivial⟩ T.sa ?_
    refine exc_osaE KX3 he3 hcl rfl hbm rfl T.no (fun h' tk' dx k dn dne hx hn => ?_)
    refine wpAt_of_wpAny (wpAny_execs_nil ?_)
    exact hq h' tk' t3 dx (fun b o hb z => k b o hb (k13 b o hb (hk₁ b o z))) hx (Nat.le_trans (Nat.le_of_lt L3) dn) hn
/-- C(e): one value, kept in the field f -/
def tErr (C : Addr) (f : Str) (ta : TA) : L2.St → Hp → XK → Prop := fun σ H Q => ta σ H fun vs H1 => ∃ v, vs = [v] ∧ ∀ d, H1 d = none → Q (.ref C) (some d) (upd H1 d (.xd [(f, v)]))
theorem lookup_one {f g : Str} {v : V} : ([(f, v)] : List (Str × V)).lookup g = if g = f then some v else none := by
  by_cases h : g = f
  · subst h; simp [List.lookup]
  · have e : (g == f) = false := by simpa using h
    rw [if_neg h]; simp [List.lookup, e]
theorem pmk_err {X : Cx} {x : Str} {C : Addr} {f : Str} {ta : TA} {e : Expr} {es : List Expr} {p pos : Pos} (T : ErrC X.prog X.K X.mg C f) (hr : Room 1 X.A) (hg : Gl X x) (hm : X.mg x = some (.ref C)) (ha : PA X (e :: es) ta)
    (hdb : (x == ("__debug__" : Str)) = false := by decide) (he : starEach (e :: es) X.env = (false, eval e X.env) :: starEach es X.env := by rfl) (hpl : (backTo pos (starEach es X.env)).any (·.1) = false := by rfl) :
    PMk X (.Call (.Name x p) (e :: es) [] pos) (tErr C f ta) := by
  intro pins s σ H Q I h
  obtain ⟨nm, q, N, bs, bm, sn, sub, ab, col, dd, k0, k1, k2, k3, k5, hC, hbm⟩ := T.cls
  obtain ⟨fI, _, _, _, _, _, _, _, _, _, _, _, _, _, _, _, _, _, _, _, _, _, _, _, _, _, _, _, _, _, _, _, _, _, _, _, _, _, iC, tI, _⟩ := id T.ini
  refine wpAny_Call_Name_kw (ld_glob I hg hm ?_ hdb)
  refine PySem.W.callWith_K (h₀ := X.base) I.ok.mod.kin T.kC (thn (ha.run pos pins s σ H _ I h) fun us s1 ⟨vs, H1, I1, r1, q1⟩ => ⟨I1.kIn, ?_⟩) he hpl
  show wpAny _ _ (call (.ref C) us) _ _ _
  obtain ⟨v, ev, q1⟩ := q1
  subst ev
  cases r1 with
  | @cons _ u _ _ rv rr =>
  cases rr
  obtain ⟨hp, g, dr, tk, os⟩ := s1
  have hsz : hp.objs.size ≤ hp.objs.size + 1 := Nat.le_succ _
  have kk : ∀ b o, hp.get? b = some o → ((hp.push (PySem.W.kdv_tup [u])).push (PySem.HandSPX.excO C hp.objs.size)).get? b = some o := fun b o e => Heap.get?_push_of_some _ (Heap.get?_push_of_some _ e)
  have hget : ((hp.push (PySem.W.kdv_tup [u])).push (PySem.HandSPX.excO C hp.objs.size)).get? (hp.objs.size + 1) = some (PySem.HandSPX.excO C hp.objs.size) := by heap_get
  have hT : ∀ X : String, bm.contains (.type X) = ESX.exTail.contains (.type X) := fun X => excTail_contains X bm hbm
  refine wpAny_call (PySem.HandSPX.call_own F.excBase_Exception hT (I1.kIn _ _ hC) (PySem.W.looks_findIn I1.kIn iC) (fun self => PySem.W.bind_fn I1.kIn self tI) (by show 1 ≤ sizeLine; decide) ?_)
  have bk : ∀ b o, X.base.get? b = some o → hp.get? b = some o := fun b o z => I1.bk b o z
  refine err_init T iC I1.ok.mod (fun b o z => kk b o (bk b o z)) ?room hget ?heb fun h' tk' t1 dx k hx hd hn => ?fin
  case room =>
    have := hr.dp
    show X.A.depth + 1 < recursionLimit
    omega
  case heb =>
    cases z : X.base.get? (hp.objs.size + 1) with
    | none => rfl
    | some o =>
      exact absurd (Nat.lt_of_succ_lt (Heap.lt_size (bk _ _ z))) (Nat.lt_irrefl _)
  case fin =>
    have hd' : hp.objs.size + 2 ≤ dx := by
      have e1 : ((hp.push (PySem.W.kdv_tup [u])).push (PySem.HandSPX.excO C hp.objs.size)).objs.size = hp.objs.size + 2 := by rw [Heap.size_push, Heap.size_push]
      rw [← e1]; exact hd
    obtain ⟨G, g1', g2'⟩ := restrict h' fun b => decide (b ≠ hp.objs.size + 1)
    have gk : ∀ b, b ≠ hp.objs.size + 1 → G.get? b = h'.get? b := fun b hb => g1' b (decide_eq_true hb)
    have ge : G.get? (hp.objs.size + 1) = none := g2' _ (by simp)
    have nha : ∀ {b : Addr} {o : Obj}, hp.get? b = some o → b ≠ hp.objs.size + 1 := fun {b o} z => Nat.ne_of_lt (Nat.lt_of_lt_of_le (Heap.lt_size z) hsz)
    have hda : dx ≠ hp.objs.size + 1 := Nat.ne_of_gt (Nat.lt_of_succ_le hd')
    have keepG : ∀ b o, hp.get? b = some o → G.get? b = some o := fun b o z => (gk b (nha z)).trans (k b o (nha z) (kk b o z))
    have hnd : H1 dx = none := I1.hok.fresh (Nat.le_trans (Nat.le_add_right _ 2) hd')
    have J : Inv X pins σ (upd H1 dx (.xd [(f, v)])) ⟨G, g, dr, tk', os⟩ := I1.laid (t' := tk') (a := dx) (o := .xd [(f, v)]) (h' := G) keepG (Nat.le_trans (Nat.le_add_right _ 2) hd') (by
      refine ⟨fun y => if y = f then some u else none, hn.at fun o z => (gk dx hda).trans z, fun y => ?_⟩
      rw [lookup_one]
      show RelO (if y = f then some v else none) (if y = f then some u else none)
      by_cases hy : y = f
      · rw [if_pos hy, if_pos hy]; exact rv
      · rw [if_neg hy, if_neg hy]; exact True.intro)
    have na : H1 (hp.objs.size + 1) = none := I1.hok.fresh hsz
    refine ⟨rfl, hp.objs.size + 1, _, _, ⟨G, g, dr, tk', os⟩, _, .ref C, some dx, rfl, J, fun b o z => ?_, ge, hx, ⟨rfl, rfl⟩, rfl, rfl, ?_, rfl, I1.bare, raises_own T.exC T.tyC, q1 dx hnd⟩
    · by_cases hb : b = hp.objs.size + 1
      · rw [hb, ge] at z; cases z
      · exact (gk b hb).symm.trans z
    · rw [upd_ne (Ne.symm hda)]; exact na
end
end Dl

set_option Elab.async false
set_option linter.all false
set_option maxRecDepth 100000
set_option maxHeartbeats 1000000
/-! D8: errors and defaults over data. -/
namespace Dl
open PySem PySem.Spec PyProof.Rows L2
def ErrOk (W : Wd) (RE : ErrP) (E : XK) : Prop := ∀ cls f x dv p G2 H2, W.Cur G2 H2 → H2 p = some (.xd [(f, x)]) → Rp G2 x dv → RE cls f dv → E (.ref cls) (some p) H2
section
variable {P : Program} {w : World} {K : PySem.W.Frag} {mg : Str → Option Value} {base : Heap}
/-- a def that may raise -/
theorem fn_sdX {x qual : Str} {st : Stmt} {f : Addr} {fd : FuncData} {N ps : List Str} {k : Nat} {M : Addr → Prop} {J : Hp → Prop} {C : List Slot → (DD → Prop) → ErrP → Prop} (F : Fun K x qual st f fd) (S : FnScope N ps (defScope st))
    (jl : ∀ H H', J H → (∀ a, M a → H' a = H a) → J H') (jm : ∀ H a, J H → M a → H a ≠ none) (len : ∀ ss R RE, C ss R RE → ss.length = ps.length) (hps : ps.length ≤ N.length)
    (hbody : ∀ (cdv : Value) (A : Around) (outer : List Env) (s : Shared) (H : Hp) (E : XK), Room k (A.deeper (envOfC qual (defScope st) s.heap.objs.size f cdv)) →
      ∃ t, PSs (cxOf (L2.CX P w) P w K mg base N qual (defScope st) f cdv A outer s H E) (defBody st) t ∧ ∀ (W : Wd) ss R RE, W.M = M → W.J = J → C ss R RE → ErrOk W RE E → SD W t (startS N ss) { nx := fun _ => R .non, rt := R }) :
    FnOk P w K mg base (L2.CX P w) (k + 1) f fd ps (spE M J C) := by
  refine F.okX S (fun vs H Q E h => ?_) (fun cdv A outer s H vs Q E hr h => ?_)
  · obtain ⟨G, ss, R, RE, g, j, mg, va, c, _, _⟩ := h
    rw [argsOk_len va]; exact len ss R RE c
  · obtain ⟨G, ss, R, RE, g, j, mg, va, c, q, qe⟩ := h
    obtain ⟨t, ht, hsd⟩ := hbody cdv A outer s H E hr
    refine ⟨t, ht, ?_⟩
    have hl := len ss R RE c
    exact hsd ⟨M, J, G, H, jl, jm, mg, g, j⟩ ss R RE rfl rfl c (fun cls f x dv p G2 H2 cu hp rx re => qe cls f x dv p G2 H2 cu hp rx re) _ G H (st_start (W := ⟨M, J, G, H, jl, jm, mg, g, j⟩) (by omega) va) _
      ⟨fun σ2 G2 H2 ρ2 S2 _ k => q .non G2 H2 .non S2.cur .non k, fun x G2 H2 d c2 rx k => q x G2 H2 d c2 rx k, fun _ _ _ _ _ _ z => z.elim, fun _ _ _ _ _ _ z => z.elim⟩
/-- a def with defaults that raises nothing -/
theorem fn_sdD {x qual : Str} {params : Arguments} {body : List Stmt} {scope : Scope} {dvs : List V} {f : Addr} {fd : FuncData} {N ps : List Str} {k : Nat} {C : List Slot → (DD → Prop) → ErrP → Prop} (F : FunD K x qual params body scope dvs [] f fd) (S : FnScope N ps scope)
    (len : ∀ ss R RE, C ss R RE → ss.length = ps.length) (hps : ps.length ≤ N.length)
    (hbody : ∀ (cdv : Value) (A : Around) (outer : List Env) (s : Shared) (H : Hp) (E : XK), Room k (A.deeper (envOfC qual scope s.heap.objs.size f cdv)) →
      ∃ t, PSs (cxOf CX0 P w K mg base N qual scope f cdv A outer s H E) body t ∧ ∀ (W : Wd) ss R RE, W.M = NoM → W.J = AnyJ → C ss R RE → SD W t (startS N ss) { nx := fun _ => R .non, rt := R }) :
    FnOk P w K mg base CX0 (k + 1) f fd ps (spE NoM AnyJ C) := by
  refine F.ok S (fun vs H Q E h => ?_) (fun cdv A outer s H vs Q E hr h => ?_)
  · obtain ⟨G, ss, R, RE, g, j, mg, va, c, _, _⟩ := h
    rw [argsOk_len va]; exact len ss R RE c
  · obtain ⟨G, ss, R, RE, g, j, mg, va, c, q, _⟩ := h
    obtain ⟨t, ht, hsd⟩ := hbody cdv A outer s H E hr
    refine ⟨t, ht, ?_⟩
    have hl := len ss R RE c
    exact hsd ⟨NoM, AnyJ, G, H, no_mut, no_mut2, mg, g, j⟩ ss R RE rfl rfl c _ G H (st_start (W := ⟨NoM, AnyJ, G, H, no_mut, no_mut2, mg, g, j⟩) (by omega) va) _
      ⟨fun σ2 G2 H2 ρ2 S2 _ k => q .non G2 H2 .non S2.cur .non k, fun x G2 H2 d c2 rx k => q x G2 H2 d c2 rx k, fun _ _ _ _ _ _ z => z.elim, fun _ _ _ _ _ _ z => z.elim⟩
end
section
variable {W : Wd} {ρ : List Slot} {P : Slot → Prop}
/-- raise C(e) -/
theorem sd_raise {E : DE} {C : Addr} {f : Str} {ta : TA} {Ex : XK} {RE : ErrP} (hE : ErrOk W RE Ex) (h : EvA W ta ρ fun ss => ∃ d, ss = [.dat d] ∧ RE C f d) :
    SD W (fun _ σ H => tErr C f ta σ H fun cls d H' => (fun (cls : Value) (d : Option Addr) (_ : L2.St) (H : Hp) => Ex cls d H) cls d σ H') ρ E := fun σ G H S D F =>
  h σ G H S _ fun xs G1 H1 ss f1 v1 ⟨d, e, re⟩ => by
    subst e
    obtain ⟨x, rfl, w1⟩ := pair1 v1
    have c := S.cur.trans f1
    exact ⟨x, rfl, fun p hp => hE C f x d p G1 _ (c.trans (W.newH c hp)) upd_same w1 re⟩
/-- what cannot be -/
theorem sd_never {E : DE} {t : TS} (h : False) : SD W t ρ E := h.elim
/-- a call with defaults -/
theorem evp_callD {C : List Slot → (DD → Prop) → ErrP → Prop} {E : XK} {t : TA} {i : Int} (RE : ErrP) (hE : ErrOk W RE E)
    (h : EvA W t ρ fun ss => okArgs ss = true ∧ C (ss.map toArg ++ [.dat (.int i)]) (fun d => P (.dat d)) RE) : EvP W (tCall (spE NoM AnyJ C) [.int i] E t) ρ P := fun σ G H S Q q =>
  h σ G H S _ fun xs G1 H1 ss f1 v1 ⟨ho, hc⟩ => by
    have c := S.cur.trans f1
    refine ⟨G1, ss.map toArg ++ [.dat (.int i)], _, RE, f1.gh, trivial, (fun _ z => z.elim), ?_, hc, fun v G2 H2 d f2 rv p => ?_, fun cls f x dv p G2 H2 f2 hp rx re => ?_⟩
    · have := args_ok (M := NoM) (fun _ z => z.elim) v1 (okArgs_all ho)
      have app : ∀ {xs : List V} {ss : List Slot}, Paired (ArgOk NoM G1 H1) xs ss → Paired (ArgOk NoM G1 H1) (xs ++ [.int i]) (ss ++ [.dat (.int i)]) := by
        intro xs ss h
        induction h with
        | nil => exact .cons (Rp.int i) .nil
        | cons a b ih => exact .cons a ih
      exact app this
    · exact q v G2 H2 (.dat d) (f1.trans (Fr.lift c f2)) rv p
    · exact hE cls f x dv p G2 H2 (c.trans (Fr.lift c f2)) hp rx re
theorem err0 {W : Wd} {E : XK} : ErrOk W (fun _ _ _ => False) E := fun _ _ _ _ _ _ _ _ _ _ z => z.elim
end
/-- a def as its callers see it, its one default written -/
def FDD (P : Program) (w : World) (K : PySem.W.Frag) (mg : Str → Option Value) (base : Heap) (CX : CXT) (k : Nat) (f : Addr) (ps : List Str) (sp : Sp) : Prop := PySem.W.keepIn K (.ref f) = true ∧ ∃ fd ds, FnOk P w K mg base CX k f fd ps sp ∧ L2.Binds K fd ps ds ∧ Vals [.int (-1)] ds
end Dl

set_option Elab.async false
set_option linter.all false
set_option maxRecDepth 100000
set_option maxHeartbeats 1000000
/-! D9: chains, ends of either kind, kinds. -/
namespace Dl
open PySem PySem.Spec PyProof.Rows L2
section
variable {W : Wd} {ρ : List Slot} {K : PySem.W.Frag} {P : Slot → Prop} {PL : List DD → Prop} {te ta tb tc : TE} {tl : TO} {r r' : R2} {s : Slot} {ds : List DD}
theorem evp_chain (h : EvP W ta ρ fun s => EvP W tb ρ fun t => OpP W r s t fun z => ∃ k, z = .dat (.bl k) ∧ (k = true → EvP W tc ρ fun u => OpP W r' t u P) ∧ (k = false → P (.dat (.bl false)))) : EvP W (tChain r r' ta tb tc) ρ P := fun σ G H S Q q =>
  h σ G H S _ fun x G1 H1 s f1 v1 h1 => h1 σ G1 H1 (S.go f1) _ fun y G2 H2 t f2 v2 h2 => h2 G2 H2 x y ((S.cur.trans f1).trans f2) (v1.go f2) v2 _ fun z G3 H3 u f3 v3 ⟨k, e, p1, p2⟩ => by
    subst e; cases v3
    refine ⟨k, rfl, ?_⟩
    cases k with
    | true =>
      rw [if_pos rfl]
      exact p1 rfl σ G3 H3 (((S.go f1).go f2).go f3) _ fun w G4 H4 u f4 v4 h4 => h4 G4 H4 y w ((((S.cur.trans f1).trans f2).trans f3).trans f4) ((v2.go f3).go f4) v4 Q fun z G5 H5 u f5 v5 p => q z G5 H5 u ((((f1.trans f2).trans f3).trans f4).trans f5) v5 p
    | false =>
      rw [if_neg Bool.false_ne_true]
      exact q _ G3 H3 _ ((f1.trans f2).trans f3) (vd (Rp.bl false)) (p2 rfl)
/-- the end of a list or a tuple from k on -/
theorem evp_fromS (h : EvP W te ρ fun s => ∃ ds, SeqS s ds ∧ EvO W tl ρ fun o => ∃ k : Nat, o = some (k : Int) ∧ ∀ t, SeqS t (ds.drop k) → LeS t (ds.drop k) → P t) : EvP W (tSl (rSlU K) te tl tNoPart) ρ P := fun σ G H S Q q =>
  h σ G H S _ fun x G1 H1 s f1 v1 ⟨ds, hs, h1⟩ => h1 σ G1 H1 (S.go f1) _ fun o G2 H2 f2 ⟨k, e, p⟩ => by
    subst e
    have v2 := v1.go f2
    have c := (S.cur.trans f1).trans f2
    have lists : ∀ a xs, x = .ref a → H2 a = some (.lst xs) → RpAll G2 xs ds → rSlU K x (some (k : Int)) none H2 Q := fun a xs ex ha ra => by
      refine .inl ⟨a, xs, ex, SqL.of ha, fun b hb => ?_⟩
      rw [cut_from]
      have f3 := W.new (o := .lst (xs.drop k)) c hb
      exact q _ _ _ _ ((f1.trans f2).trans f3) (vd (Rp.lst upd_same ((ra.drop k).mono f3.gg))) (p _ (.lst _) (.lst _))
    cases hs with
    | lst =>
      cases v2 with
      | @lst a xs _ ha ra => exact lists a xs rfl (f2.gh _ _ ha) ra
    | seq m =>
      obtain ⟨a, xs, ex, ha, _, _, _, _, ra⟩ := v2
      exact lists a xs ex ha ra
    | tup =>
      cases v2 with
      | @tup a xs _ ha ra =>
      refine .inr ⟨a, xs, rfl, SqT.of (f2.gh _ _ ha), fun hw => ?_, fun hw b hb => ?_⟩
      · have : ds.drop k = ds := by
          have hl := ra.length
          have h0 := hw.1
          rw [HT.sIx_nat] at h0
          by_cases z : k = 0
          · subst z; rfl
          · have : ds.length = 0 := by omega
            have e : ds = [] := List.eq_nil_of_length_eq_zero this
            subst e; simp
        rw [this] at p
        exact q _ G2 H2 _ (f1.trans f2) (vd (Rp.tup ha ra)) (p _ (.tup _) (.tup _))
      · rw [cut_from]
        have f3 := W.new (o := .tup (xs.drop k)) c hb
        exact q _ _ _ _ ((f1.trans f2).trans f3) (vd (Rp.tup upd_same ((ra.drop k).mono f3.gg))) (p _ (.tup _) (.tup _))
theorem evp_seq {i : Nat} (h : ρ[i]? = some s) (hs : SeqS s ds) (p : P (lend s)) : EvP W (tVar i) ρ P := evp_var h (fun z => by subst z; cases hs) p
end
theorem kd_seq {s : Slot} {ds : List DD} (h : SeqS s ds) : ∃ k, kdS s = some k ∧ (decide (k = .lst) || decide (k = .tup)) = true := by
  cases h with
  | lst => exact ⟨.lst, rfl, rfl⟩
  | tup => exact ⟨.tup, rfl, rfl⟩
  | seq m => exact ⟨.lst, rfl, rfl⟩
theorem ok1 {s : Slot} {k : Kd} (h : kdS s = some k) : okArgs [lend s] = true := by
  cases s with
  | no => cases h
  | seq m ds => cases m <;> rfl
  | dat d => rfl
theorem py_arg {s : Slot} : slotPy (toArg (lend s)) = slotPy s := by
  cases s with
  | seq m ds => cases m <;> rfl
  | _ => rfl
theorem py_lend {s : Slot} : slotPy (lend s) = slotPy s := by
  cases s with
  | seq m ds => cases m <;> rfl
  | _ => rfl
theorem kd_al {s : Slot} {k : Kd} (h : kdS s = some k) : kdS (toArg (lend s)) = some k := kd_arg.trans (kd_lend.trans h)
theorem seq_al {s : Slot} {ds : List DD} (h : SeqS s ds) : SeqS (toArg (lend s)) ds := seqS_arg (seqS_lend h)
/-- among the numbers from nought on; below m -/
def numD : DD → Bool
  | .int i => decide (0 ≤ i)
  | _ => false
def belD (m : Int) : DD → Bool
  | .int i => decide (0 ≤ i) && decide (i < m)
  | _ => false
theorem kd_int {s : Slot} (h : kdS s = some .int) : ∃ i, s = .dat (.int i) := by
  cases s with
  | no => cases h
  | seq m ds => cases h
  | dat d =>
    cases d with
    | int i => exact ⟨i, rfl⟩
    | _ => cases h
theorem num_no {s : Slot} {k : Kd} (h : kdS s = some k) (n : k ≠ .int) : numD (slotPy s) = false ∧ ∀ m, belD m (slotPy s) = false := by
  cases s with
  | no => cases h
  | seq m ds => exact ⟨rfl, fun _ => rfl⟩
  | dat d =>
    cases d with
    | int i => cases h; exact absurd rfl n
    | _ => exact ⟨rfl, fun _ => rfl⟩
theorem bel_num {m : Int} {d : DD} (h : numD d = false) : belD m d = false := by
  cases d with
  | int i =>
    have h : decide (0 ≤ i) = false := h
    show (decide (0 ≤ i) && decide (i < m)) = false
    rw [h]; rfl
  | _ => rfl
end Dl

set_option Elab.async false
set_option linter.all false
set_option maxRecDepth 100000
set_option maxHeartbeats 1000000
namespace Dl
open PySem PySem.Spec PyProof.Rows L2
local macro_rules | `(tactic| wtm_at "d") => `(tactic| first
  | with_reducible refine sd_seq ?_ | with_reducible refine sd_if ?_ | with_reducible refine sd_ret ?_ | with_reducible refine sd_set ?_
  | with_reducible refine evp_op ?_ | with_reducible refine evp_un ?_ | with_reducible refine evp_cb ?_ | with_reducible refine evp_tupD ?_
  | with_reducible refine evp_andV ?_ | with_reducible refine evp_orV ?_ | with_reducible refine evp_notV ?_ | with_reducible refine evp_if ?_
  | with_reducible refine evt_test ?_ | with_reducible refine evt_B ?_ | with_reducible refine evt_and ?_ | with_reducible refine evt_or ?_ | with_reducible refine evt_not ?_
  | with_reducible refine eva_cons ?_ | with_reducible refine eva_nil ?_
  | with_reducible refine evp_int ?_ | with_reducible refine evp_str ?_ | with_reducible refine evp_bl ?_ | with_reducible refine evp_non ?_ | with_reducible refine evp_any ?_
  | (with_reducible refine evp_isv ?_; refine evp_dat rfl ?_)
  | with_reducible refine evp_callP ?_
  | with_reducible refine sd_next ?_
  | with_reducible refine opp_add ?_ | with_reducible refine opp_sub ?_ | with_reducible refine opp_lt ?_ | with_reducible refine opp_le ?_ | with_reducible refine opp_gt ?_ | with_reducible refine opp_ge ?_
  | with_reducible refine opp_isN ?_ | with_reducible refine opp_notN ?_ | with_reducible refine unp_neg ?_
  | with_reducible refine ex_bl ?_ | with_reducible refine ex_dat ?_ | with_reducible refine ex_int ?_)
variable {P : Program} {w : World} {K : PySem.W.Frag} {mg : Str → Option Value} {base : Heap} {A : Ads}

abbrev c_is_integer : List Slot → (DD → Prop) → Prop := fun ss R => ∃ s k, ss = [s] ∧ kdS s = some k ∧ R (.bl (decide (k = .int)))
theorem ok_is_integer (T : Txt K mg A) : FD P w K mg base CX0 1 A.is_integer ["value"] (spP c_is_integer) := by
  obtain ⟨fd, F⟩ := T.F_is_integer
  refine ⟨F.kp, fd, ?_, F.binds fun _ _ _ _ _ _ us hl => match us, hl with | [_], _ => rfl⟩
  refine fn_sd F sc_is_integer no_mut no_mut2 (fun ss R RE ⟨s, k, e, _⟩ => by rw [e]; rfl) (by decide) fun cdv B outer s H E hr => ⟨_,
    (pss_one (ps_ret (pe_and (pe_callB call_isi (by rfl) T.n_isinstance (by decide +kernel) (pa_cons (pv 0) (pa_cons (pe_bltn (v := .ty "int") (by rfl) T.n_int (by decide +kernel) rfl) pa_nil))) (pe_one (pe_not (pe_callB call_isi (by rfl) T.n_isinstance (by decide +kernel) (pa_cons (pv 0) (pa_cons (pe_bltn (v := .ty "bool") (by rfl) T.n_bool (by decide +kernel) rfl) pa_nil)))))))), ?_⟩
  rintro W ss R RE _ _ ⟨s, k, rfl, hk, hR⟩
  repeat (wtm_at "d")
  refine evp_arg rfl hk ?_
  repeat (wtm_at "d")
  refine cap_isi (kd_lend.trans hk) (kit_int k) ?_
  refine ⟨_, rfl, fun h => ?_, fun h => ?_⟩
  · repeat (wtm_at "d")
    refine evp_arg rfl hk ?_
    repeat (wtm_at "d")
    refine cap_isi (kd_lend.trans hk) (kit_bool k) ?_
    repeat (wtm_at "d")
    show R _
    cases k <;> first | exact hR | exact absurd h (by decide)
  · repeat (wtm_at "d")
    show R _
    cases k <;> first | exact hR | exact absurd h (by decide)
abbrev c_is_number : List Slot → (DD → Prop) → Prop := fun ss R => ∃ s k, ss = [s] ∧ kdS s = some k ∧ R (.bl (numD (slotPy s)))
theorem ok_is_number (T : Txt K mg A) : FD P w K mg base CX0 2 A.is_number ["value"] (spP c_is_number) := by
  obtain ⟨fd, F⟩ := T.F_is_number
  obtain ⟨k_is_integer, fd1, G_is_integer, B_is_integer⟩ := ok_is_integer (P := P) (w := w) (base := base) T
  refine ⟨F.kp, fd, ?_, F.binds fun _ _ _ _ _ _ us hl => match us, hl with | [_], _ => rfl⟩
  refine fn_sd F sc_is_number no_mut no_mut2 (fun ss R RE ⟨s, k, e, _⟩ => by rw [e]; rfl) (by decide) fun cdv B outer s H E hr => ⟨_,
    (pss_one (ps_ret (pe_and (pe_call G_is_integer hr (by rfl) T.g_is_integer k_is_integer B_is_integer .nil pass0 (pa_cons (pv 0) pa_nil)) (pe_one (pe_cmpR op_geI (pv 0) pe_int (nomark _)))))), ?_⟩
  rintro W ss R RE _ _ ⟨s, k, rfl, hk, hR⟩
  repeat (wtm_at "d")
  refine evp_arg rfl hk ?_
  repeat (wtm_at "d")
  refine ⟨ok1 hk, _, k, rfl, kd_al hk, _, rfl, fun h => ?_, fun h => ?_⟩
  · have e := of_decide_eq_true h
    subst e
    obtain ⟨i, rfl⟩ := kd_int hk
    repeat (wtm_at "d")
    exact hR
  · repeat (wtm_at "d")
    show R _
    rw [← (num_no hk (of_decide_eq_false h)).1]
    exact hR
abbrev c_is_below : List Slot → (DD → Prop) → Prop := fun ss R => ∃ s k m, ss = [s, .dat (.int m)] ∧ kdS s = some k ∧ R (.bl (belD m (slotPy s)))
theorem ok_is_below (T : Txt K mg A) : FD P w K mg base CX0 3 A.is_below ["value", "many"] (spP c_is_below) := by
  obtain ⟨fd, F⟩ := T.F_is_below
  obtain ⟨k_is_number, fd_is_number, G_is_number, B_is_number⟩ := ok_is_number (P := P) (w := w) (base := base) T
  refine ⟨F.kp, fd, ?_, F.binds fun _ _ _ _ _ _ us hl => match us, hl with | [_, _], _ => rfl⟩
  refine fn_sd F sc_is_below no_mut no_mut2 (fun ss R RE ⟨s, k, m, e, _⟩ => by rw [e]; rfl) (by decide) fun cdv B outer s H E hr => ⟨_,
    (pss_one (ps_ret (pe_and (pe_call G_is_number (hr.mono (by decide)) (by rfl) T.g_is_number k_is_number B_is_number .nil pass0 (pa_cons (pv 0) pa_nil)) (pe_one (pe_cmpR op_ltI (pv 0) (pv 1) (nomark _)))))), ?_⟩
  rintro W ss R RE _ _ ⟨s, k, m, rfl, hk, hR⟩
  repeat (wtm_at "d")
  refine evp_arg rfl hk ?_
  repeat (wtm_at "d")
  refine ⟨ok1 hk, _, k, rfl, kd_al hk, _, rfl, fun h => ?_, fun h => ?_⟩
  · rw [py_arg] at h
    by_cases e : k = .int
    · subst e
      obtain ⟨i, rfl⟩ := kd_int hk
      repeat (wtm_at "d")
      have h : decide (0 ≤ i) = true := h
      have hR : R (.bl (decide (0 ≤ i) && decide (i < m))) := hR
      rw [h] at hR
      exact hR
    · rw [(num_no hk e).1] at h; cases h
  · rw [py_arg] at h
    repeat (wtm_at "d")
    show R _
    rw [← bel_num (m := m) h]
    exact hR
abbrev c_is_sequence : List Slot → (DD → Prop) → Prop := fun ss R => ∃ s k, ss = [s] ∧ kdS s = some k ∧ R (.bl (decide (k = .lst) || decide (k = .tup)))
theorem ok_is_sequence (T : Txt K mg A) : FD P w K mg base CX0 1 A.is_sequence ["value"] (spP c_is_sequence) := by
  obtain ⟨fd, F⟩ := T.F_is_sequence
  refine ⟨F.kp, fd, ?_, F.binds fun _ _ _ _ _ _ us hl => match us, hl with | [_], _ => rfl⟩
  refine fn_sd F sc_is_sequence no_mut no_mut2 (fun ss R RE ⟨s, k, e, _⟩ => by rw [e]; rfl) (by decide) fun cdv B outer s H E hr => ⟨_,
    (pss_one (ps_ret (pe_callB call_isiT (by rfl) T.n_isinstance (by decide +kernel) (pa_cons (pv 0) (pa_cons (pe_tup (pa_cons (pe_bltn (v := .ty "list") (by rfl) T.n_list (by decide +kernel) rfl) (pa_cons (pe_bltn (v := .ty "tuple") (by rfl) T.n_tuple (by decide +kernel) rfl) pa_nil))) pa_nil))))), ?_⟩
  rintro W ss R RE _ _ ⟨s, k, rfl, hk, hR⟩
  repeat (wtm_at "d")
  refine evp_arg rfl hk ?_
  repeat (wtm_at "d")
  refine ⟨_, rfl, by decide, ?_⟩
  repeat (wtm_at "d")
  refine cap_isi2 (kd_lend.trans hk) (kit_list k) (kit_tuple k) ?_
  repeat (wtm_at "d")
  exact hR
abbrev c_is_letter : List Slot → (DD → Prop) → Prop := fun ss R => ∃ s k, ss = [s] ∧ kdS s = some k ∧ R (.bl (belD 100 (slotPy s)))
theorem ok_is_letter (T : Txt K mg A) : FD P w K mg base CX0 4 A.is_letter ["value"] (spP c_is_letter) := by
  obtain ⟨fd, F⟩ := T.F_is_letter
  obtain ⟨k_is_below, fd_is_below, G_is_below, B_is_below⟩ := ok_is_below (P := P) (w := w) (base := base) T
  refine ⟨F.kp, fd, ?_, F.binds fun _ _ _ _ _ _ us hl => match us, hl with | [_], _ => rfl⟩
  refine fn_sd F sc_is_letter no_mut no_mut2 (fun ss R RE ⟨s, k, e, _⟩ => by rw [e]; rfl) (by decide) fun cdv B outer s H E hr => ⟨_,
    (pss_one (ps_ret (pe_call G_is_below (hr.mono (by decide)) (by rfl) T.g_is_below k_is_below B_is_below .nil pass0 (pa_cons (pv 0) (pa_cons (pe_const (by rfl) T.c_MANY_LETTERS) pa_nil))))), ?_⟩
  rintro W ss R RE _ _ ⟨s, k, rfl, hk, hR⟩
  repeat (wtm_at "d")
  refine evp_arg rfl hk ?_
  repeat (wtm_at "d")
  refine ⟨?_, _, k, _, rfl, kd_al hk, ?_⟩
  · cases s with
    | no => cases hk
    | seq m ds => cases m <;> rfl
    | dat d => rfl
  rw [py_arg]
  exact ⟨_, rfl, hR⟩
end Dl

set_option Elab.async false
set_option linter.all false
set_option maxRecDepth 100000
set_option maxHeartbeats 1000000
namespace Dl
open PySem PySem.Spec PyProof.Rows L2
local macro_rules | `(tactic| wtm_at "d") => `(tactic| first
  | with_reducible refine sd_seq ?_ | with_reducible refine sd_if ?_ | with_reducible refine sd_ret ?_ | with_reducible refine sd_set ?_
  | with_reducible refine evp_op ?_ | with_reducible refine evp_un ?_ | with_reducible refine evp_cb ?_ | with_reducible refine evp_tupD ?_
  | with_reducible refine evp_andV ?_ | with_reducible refine evp_orV ?_ | with_reducible refine evp_notV ?_ | with_reducible refine evp_if ?_
  | with_reducible refine evt_test ?_ | with_reducible refine evt_B ?_ | with_reducible refine evt_and ?_ | with_reducible refine evt_or ?_ | with_reducible refine evt_not ?_
  | with_reducible refine eva_cons ?_ | with_reducible refine eva_nil ?_
  | with_reducible refine evp_int ?_ | with_reducible refine evp_str ?_ | with_reducible refine evp_bl ?_ | with_reducible refine evp_non ?_ | with_reducible refine evp_any ?_
  | (with_reducible refine evp_isv ?_; refine evp_dat rfl ?_)
  | with_reducible refine evp_callP ?_
  | with_reducible refine sd_next ?_
  | with_reducible refine opp_add ?_ | with_reducible refine opp_sub ?_ | with_reducible refine opp_lt ?_ | with_reducible refine opp_le ?_ | with_reducible refine opp_gt ?_ | with_reducible refine opp_ge ?_
  | with_reducible refine opp_isN ?_ | with_reducible refine opp_notN ?_ | with_reducible refine unp_neg ?_
  | with_reducible refine ex_bl ?_ | with_reducible refine ex_dat ?_ | with_reducible refine ex_int ?_)
variable {P : Program} {w : World} {K : PySem.W.Frag} {mg : Str → Option Value} {base : Heap} {A : Ads}
/-- a step as it is told -/
inductive Stp where
  | ver (v : DD) | mrg (a b c : DD)
def Stp.ds : Stp → List DD
  | .ver v => [.str ("version" : Str), v]
  | .mrg a b c => [.str ("merge" : Str), a, b, c]
def Stp.Kn : Stp → Prop
  | .ver v => kdD v ≠ none
  | .mrg a b c => kdD a ≠ none ∧ kdD b ≠ none ∧ kdD c ≠ none
def okStp (many before : Int) : Stp → Bool
  | .ver v => belD many v
  | .mrg a b c => belD before a && (belD before b && belD before c)
theorem kn_some {d : DD} (h : kdD d ≠ none) : ∃ k, kdS (.dat d) = some k := by
  cases e : kdD d with
  | none => exact absurd e h
  | some k => exact ⟨k, e⟩
theorem bl_of_iff {b : Bool} {p : Prop} (h : b = true ↔ p) : (p → b = true) ∧ (¬ p → b = false) := ⟨h.mpr, fun n => by
  cases e : b with
  | true => exact absurd (h.mp e) n
  | false => rfl⟩
theorem ff {p : Prop} (h : false = true) : p := Bool.noConfusion h
theorem nn (d : DD) : Slot.dat d ≠ .no := fun z => nomatch z
abbrev c_is_step : List Slot → (DD → Prop) → Prop := fun ss R => ∃ m b s st, ss = [.dat (.int m), .dat (.int b), s] ∧ SeqS s (Stp.ds st) ∧ st.Kn ∧ R (.bl (okStp m b st))
theorem ok_is_step (T : Txt K mg A) : FD P w K mg base CX0 4 A.is_step ["many", "before", "value"] (spP c_is_step) := by
  obtain ⟨fd, F⟩ := T.F_is_step
  obtain ⟨k_is_sequence, fd_is_sequence, G_is_sequence, B_is_sequence⟩ := ok_is_sequence (P := P) (w := w) (base := base) T
  obtain ⟨k_is_below, fd_is_below, G_is_below, B_is_below⟩ := ok_is_below (P := P) (w := w) (base := base) T
  refine ⟨F.kp, fd, ?_, F.binds fun _ _ _ _ _ _ us hl => match us, hl with | [_, _, _], _ => rfl⟩
  refine fn_sd F sc_is_step no_mut no_mut2 (fun ss R RE ⟨m, b, s, st, e, _⟩ => by rw [e]; rfl) (by decide) fun cdv B outer s H E hr => ⟨_,
    (pss_cons (ps_if (PW.pt (pw_or (pt_not (pt_val (pe_call G_is_sequence (hr.mono (by decide)) (by rfl) T.g_is_sequence k_is_sequence B_is_sequence .nil pass0 (pa_cons (pv 2) pa_nil)))) (pw_or1 (pt_cmpR op_notIn_seq (pe_callB call_cLen (by rfl) T.n_len (by decide +kernel) (pa_cons (pv 2) pa_nil)) (pe_tup (pa_cons pe_int (pa_cons pe_int pa_nil))) (by rfl)))))
      (pss_one (ps_ret pe_bl))
      pss_nil)
      (pss_cons (ps_if (pt_cmpR (op_eqD hr.units) (pe_callB call_cLen (by rfl) T.n_len (by decide +kernel) (pa_cons (pv 2) pa_nil)) pe_int (nomark _))
      (pss_one (ps_ret (pe_and (pe_cmpR (op_eqD hr.units) (pe_ix ix_seq (pv 2) pe_int (fun _ _ => rfl)) pe_str (nomark _)) (pe_one (pe_call G_is_below (hr.mono (by decide)) (by rfl) T.g_is_below k_is_below B_is_below .nil pass0 (pa_cons (pe_ix ix_seq (pv 2) pe_int (fun _ _ => rfl)) (pa_cons (pv 0) pa_nil)))))))
      pss_nil)
      (pss_one (ps_ret (pe_and (pe_cmpR (op_eqD hr.units) (pe_ix ix_seq (pv 2) pe_int (fun _ _ => rfl)) pe_str (nomark _)) (pe_one (pe_callB (cr_all rfl) (by rfl) T.n_all (by decide +kernel) (pa_cons (pe_lc (own := [("one", 3)]) (g := (gName 3)) (by rfl) sc_is_step.nd (pi_seq (pe_slice sl_U (pv 2) (po_some pe_int) po_none)) (blkOk_by (own := [("one", 3)]) (N := N_is_step) (sc := defScope s_is_step) (by decide +kernel)) (fun _ _ _ _ _ => (pg_name (i := 3) sc_is_step.nd rfl (Or.inl rfl))) (fun _ _ _ _ _ => pts_nil) (fun _ _ _ _ _ => (pe_call G_is_below (hr.mono (by decide)) (by rfl) T.g_is_below k_is_below B_is_below .nil pass0 (pa_cons (pv 3) (pa_cons (pv 1) pa_nil))))) pa_nil)))))))), ?_⟩
  rintro W ss R RE _ _ ⟨m, b, s, st, rfl, hs, hkn, hR⟩
  obtain ⟨ks, hks, hsq⟩ := kd_seq hs
  repeat (wtm_at "d")
  refine evp_arg rfl hks ?_
  repeat (wtm_at "d")
  refine ⟨ok1 hks, _, ks, rfl, kd_al hks, _, rfl, ⟨fun h => ?_, fun h => ?_⟩⟩
  · rw [hsq] at h; cases h
  repeat (wtm_at "d")
  refine evp_seq rfl hs ?_
  repeat (wtm_at "d")
  refine cap_len (seqS_lend hs) ?_
  repeat (wtm_at "d")
  refine ⟨_, rfl, by decide, ?_⟩
  refine opp_nin (ns := [2, 4]) (.tup _) ?_
  repeat (wtm_at "d")
  cases st with
  | ver v =>
    obtain ⟨kv, hkv⟩ := kn_some hkn
    refine ⟨fun h => ff h, fun _ => ?_⟩
    repeat (wtm_at "d")
    refine evp_seq rfl hs ?_
    repeat (wtm_at "d")
    refine cap_len (seqS_lend hs) ?_
    repeat (wtm_at "d")
    refine opp_eq (n := 0) (by decide) (nn _) (nn _) rfl rfl fun x hx => ?_
    have hx : x = true := hx.mpr rfl
    subst hx
    repeat (wtm_at "d")
    refine ⟨fun _ => ?_, fun h => Bool.noConfusion h⟩
    repeat (wtm_at "d")
    refine evp_seq rfl hs ?_
    repeat (wtm_at "d")
    refine opp_ix (i := 0) (seqS_lend hs) rfl ?_
    repeat (wtm_at "d")
    refine opp_eq (n := 0) (by decide) (nn _) (nn _) (by decide +kernel) (by decide +kernel) fun x hx => ?_
    have hx : x = true := hx.mpr rfl
    subst hx
    refine ⟨_, rfl, fun _ => ?_, fun h => Bool.noConfusion h⟩
    repeat (wtm_at "d")
    refine evp_seq rfl hs ?_
    repeat (wtm_at "d")
    refine opp_ix (i := 1) (seqS_lend hs) rfl ?_
    repeat (wtm_at "d")
    exact ⟨rfl, _, kv, m, rfl, hkv, _, rfl, hR⟩
  | mrg a1 a2 a3 =>
    obtain ⟨k1, hk1⟩ := kn_some hkn.1
    obtain ⟨k2, hk2⟩ := kn_some hkn.2.1
    obtain ⟨k3, hk3⟩ := kn_some hkn.2.2
    refine ⟨fun h => ff h, fun _ => ?_⟩
    repeat (wtm_at "d")
    refine evp_seq rfl hs ?_
    repeat (wtm_at "d")
    refine cap_len (seqS_lend hs) ?_
    repeat (wtm_at "d")
    refine opp_eq (n := 0) (by decide) (nn _) (nn _) rfl rfl fun x hx => ?_
    have hx : x = false := (bl_of_iff hx).2 (fun z => nomatch (DD.int.inj z))
    subst hx
    repeat (wtm_at "d")
    refine ⟨fun h => Bool.noConfusion h, fun _ => ?_⟩
    repeat (wtm_at "d")
    refine evp_seq rfl hs ?_
    repeat (wtm_at "d")
    refine opp_ix (i := 0) (seqS_lend hs) rfl ?_
    repeat (wtm_at "d")
    refine opp_eq (n := 0) (by decide) (nn _) (nn _) (by decide +kernel) (by decide +kernel) fun x hx => ?_
    have hx : x = true := hx.mpr rfl
    subst hx
    refine ⟨_, rfl, fun _ => ?_, fun h => Bool.noConfusion h⟩
    repeat (wtm_at "d")
    refine evp_new (evf_map ?_)
    refine wip_seq ?_
    refine evp_fromS ?_
    refine evp_seq rfl hs ?_
    refine ⟨_, seqS_lend hs, evo_part ?_⟩
    wtm_at "d"
    refine ⟨_, rfl, 1, rfl, fun t ht _ => ⟨_, ht, (show 3 ≤ 50000 by decide), fun i => .bl (belD b (itemsOf [a1, a2, a3] i)), fun i hi => gap_name (by decide) ?_, ?_⟩⟩
    · repeat (wtm_at "d")
      have hk : ∃ k, kdS (.dat (itemsOf [a1, a2, a3] i)) = some k := by
        match i, hi with
        | 0, _ => exact ⟨k1, hk1⟩
        | 1, _ => exact ⟨k2, hk2⟩
        | 2, _ => exact ⟨k3, hk3⟩
        | n + 3, h => exact absurd (show n + 3 < 3 from h) (by omega)
      obtain ⟨k, hk⟩ := hk
      exact ⟨rfl, _, k, b, rfl, hk, rfl⟩
    · repeat (wtm_at "d")
      refine cap_all (bs := (List.range 3).map fun i => belD b (itemsOf [a1, a2, a3] i)) (.lst _) ?_
      repeat (wtm_at "d")
      have e : ((List.range 3).map (fun i => belD b (itemsOf [a1, a2, a3] i))).all id = okStp m b (.mrg a1 a2 a3) := by
        show (belD b a1 && (belD b a2 && (belD b a3 && true))) = _
        rw [Bool.and_true]; rfl
      rw [← e] at hR
      exact hR
end Dl

set_option Elab.async false
set_option linter.all false
set_option maxRecDepth 100000
set_option maxHeartbeats 1000000
namespace Dl
open PySem PySem.Spec PyProof.Rows L2
local macro_rules | `(tactic| wtm_at "d") => `(tactic| first
  | with_reducible refine sd_seq ?_ | with_reducible refine sd_if ?_ | with_reducible refine sd_ret ?_ | with_reducible refine sd_set ?_
  | with_reducible refine evp_op ?_ | with_reducible refine evp_un ?_ | with_reducible refine evp_cb ?_ | with_reducible refine evp_tupD ?_
  | with_reducible refine evp_andV ?_ | with_reducible refine evp_orV ?_ | with_reducible refine evp_notV ?_ | with_reducible refine evp_if ?_
  | with_reducible refine evt_test ?_ | with_reducible refine evt_B ?_ | with_reducible refine evt_and ?_ | with_reducible refine evt_or ?_ | with_reducible refine evt_not ?_
  | with_reducible refine eva_cons ?_ | with_reducible refine eva_nil ?_
  | with_reducible refine evp_int ?_ | with_reducible refine evp_str ?_ | with_reducible refine evp_bl ?_ | with_reducible refine evp_non ?_ | with_reducible refine evp_any ?_
  | (with_reducible refine evp_isv ?_; refine evp_dat rfl ?_)
  | with_reducible refine evp_callP ?_ | with_reducible refine evp_chain ?_
  | with_reducible refine sd_next ?_
  | with_reducible refine opp_add ?_ | with_reducible refine opp_sub ?_ | with_reducible refine opp_lt ?_ | with_reducible refine opp_le ?_ | with_reducible refine opp_gt ?_ | with_reducible refine opp_ge ?_
  | with_reducible refine opp_isN ?_ | with_reducible refine opp_notN ?_ | with_reducible refine unp_neg ?_
  | with_reducible refine ex_bl ?_ | with_reducible refine ex_dat ?_ | with_reducible refine ex_int ?_)
variable {P : Program} {w : World} {K : PySem.W.Frag} {mg : Str → Option Value} {base : Heap} {A : Ads}
/-- the text, and its errors -/
structure Txe (P : Program) (K : PySem.W.Frag) (mg : Str → Option Value) (A : Ads) : Prop extends Txt K mg A where
  e_InvalidSize : ErrC P K mg A.InvalidSize "word"
  e_InvalidPlan : ErrC P K mg A.InvalidPlan "at"
def StpAt (e : DD) (st : Stp) : Prop := (e = .lst st.ds ∨ e = .tup st.ds) ∧ st.Kn
def StpAll (es : List DD) (sts : List Stp) : Prop := es.length = sts.length ∧ ∀ i st, sts[i]? = some st → StpAt (itemsOf es i) st
theorem StpAt.seq {e : DD} {st : Stp} (h : StpAt e st) : SeqS (.dat e) st.ds := by
  rcases h.1 with h | h
  · rw [h]; exact .lst _
  · rw [h]; exact .tup _
def badAt (m : Int) : Nat → List Stp → Option Nat
  | _, [] => none
  | n, st :: r => if okStp m (n : Int) st then badAt m (n + 1) r else some n
def okMany : DD → Bool
  | .int i => decide (1 ≤ i) && decide (i ≤ 12)
  | _ => false
theorem le_seq {s : Slot} {ds : List DD} (h : LeS s ds) : SeqS s ds := by
  cases h with
  | lst => exact .lst _
  | tup => exact .tup _
  | seq => exact .seq _ _
theorem le_lend {s : Slot} {ds : List DD} (h : LeS s ds) : LeS (lend s) ds := by
  cases h with
  | lst => exact .lst _
  | tup => exact .tup _
  | seq => exact .seq _
theorem range_map {α : Type} [Inhabited α] (l : List α) : (List.range l.length).map (fun i => l.getD i default) = l := by
  apply List.ext_getElem
  · simp
  · intro i h1 h2
    simp [List.getD_eq_getElem?_getD, List.getElem?_eq_getElem (show i < l.length from h2)]
theorem range_mapf {α β : Type} [Inhabited α] (f : α → β) (l : List α) : (List.range l.length).map (fun i => f (l.getD i default)) = l.map f := by
  apply List.ext_getElem
  · simp
  · intro i h1 h2
    simp [List.getD_eq_getElem?_getD, List.getElem?_eq_getElem (show i < l.length by simpa using h2)]
instance : Inhabited Stp := ⟨.ver .non⟩
theorem num_int {s : Slot} {k : Kd} (h : kdS s = some k) (n : numD (slotPy s) = true) : ∃ i, s = .dat (.int i) ∧ 0 ≤ i := by
  by_cases e : k = .int
  · subst e
    obtain ⟨i, rfl⟩ := kd_int h
    exact ⟨i, rfl, of_decide_eq_true n⟩
  · rw [(num_no h e).1] at n; cases n
theorem num_many {d : DD} (n : numD d = false) : okMany d = false := by
  cases d with
  | int i =>
    have n : decide (0 ≤ i) = false := n
    show (decide (1 ≤ i) && decide (i ≤ 12)) = false
    have := of_decide_eq_false n
    rw [decide_eq_false (show ¬ (1 ≤ i) by omega)]; rfl
  | _ => rfl
abbrev c_need_plan (A : Ads) : List Slot → (DD → Prop) → ErrP → Prop := fun ss R RE => ∃ mS s mk es sts, ss = [mS, s] ∧ kdS mS = some mk ∧ LeS s es ∧ StpAll es sts ∧ 1 ≤ sts.length ∧ sts.length ≤ 20 ∧
  (okMany (slotPy mS) = false → RE A.InvalidSize "word" (.str ("many" : Str))) ∧
  ∀ M : Int, slotPy mS = .int M → okMany (.int M) = true → (badAt M 0 sts = none → R (.tup (sts.map fun st => .tup st.ds))) ∧ ∀ at' : Nat, badAt M 0 sts = some at' → RE A.InvalidPlan "at" (.int (at' : Int))
theorem ok_need_plan (T : Txe P K mg A) : FD P w K mg base (L2.CX P w) 5 A.need_plan ["many", "value"] (spE NoM AnyJ (c_need_plan A)) := by
  obtain ⟨fd, F⟩ := T.F_need_plan
  obtain ⟨k_is_number, fd_is_number, G_is_number, B_is_number⟩ := ok_is_number (P := P) (w := w) (base := base) T.toTxt
  obtain ⟨k_is_sequence, fd_is_sequence, G_is_sequence, B_is_sequence⟩ := ok_is_sequence (P := P) (w := w) (base := base) T.toTxt
  obtain ⟨k_is_step, fd_is_step, G_is_step, B_is_step⟩ := ok_is_step (P := P) (w := w) (base := base) T.toTxt
  refine ⟨F.kp, fd, ?_, F.binds fun _ _ _ _ _ _ us hl => match us, hl with | [_, _], _ => rfl⟩
  refine fn_sdX F sc_need_plan no_mut no_mut2 ?len (by decide) fun cdv B outer s H E hr => ⟨_,
    (pss_cons (ps_if (PW.pt (pw_or (pt_not (pt_val (pe_call G_is_number (hr.mono (by decide)) (by rfl) T.g_is_number k_is_number B_is_number .nil pass0 (pa_cons (pv 0) pa_nil)))) (pw_or1 (pt_not (pt_chain op_leI op_leI pe_int (pv 0) (pe_const (by rfl) T.c_MOST_VERSIONS))))))
      (pss_one (ps_raise rfl (takes_of rfl rfl rfl rfl) (pmk_err T.e_InvalidSize (hr.mono (by decide)) (by rfl) T.g_InvalidSize (pa_cons pe_str pa_nil))))
      pss_nil)
      (pss_cons (ps_if (PW.pt (pw_or (pt_not (pt_val (pe_call G_is_sequence (hr.mono (by decide)) (by rfl) T.g_is_sequence k_is_sequence B_is_sequence .nil pass0 (pa_cons (pv 1) pa_nil)))) (pw_or1 (pt_not (pt_chain op_leI op_leI pe_int (pe_callB (r := cLen K) call_cLen (by rfl) T.n_len (by decide +kernel) (pa_cons (pv 1) pa_nil)) (pe_const (by rfl) T.c_MOST_STEPS))))))
      (pss_one ps_never)
      pss_nil)
      (pss_cons (ps_for (passes_of rfl) rfl (pi_enumU (by rfl) T.n_enumerate (pa_cons (pv 1) pa_nil)) (pg_tup rfl (pgs_cons (pg_name (i := 2) sc_need_plan.nd rfl (Or.inl rfl)) (pgs_cons (pg_name (i := 3) sc_need_plan.nd rfl (Or.inl rfl)) pgs_nil)))
      (pss_one (ps_if (pt_not (pt_val (pe_call G_is_step (hr.mono (by decide)) (by rfl) T.g_is_step k_is_step B_is_step .nil pass0 (pa_cons (pv 0) (pa_cons (pv 2) (pa_cons (pv 3) pa_nil))))))
      (pss_one (ps_raise rfl (takes_of rfl rfl rfl rfl) (pmk_err T.e_InvalidPlan (hr.mono (by decide)) (by rfl) T.g_InvalidPlan (pa_cons (pv 2) pa_nil))))
      pss_nil)))
      (pss_one (ps_ret (pe_callTy (T := "tuple") (r := cTup K) call_cTup (by rfl) T.n_tuple (by decide +kernel) (pa_cons (pe_lc (own := [("step", 3)]) (g := (gName 3)) (by rfl) sc_need_plan.nd (pi_seq (pv 1)) (blkOk_by (own := [("step", 3)]) (N := N_need_plan) (sc := defScope s_need_plan) (by decide +kernel)) (fun _ _ _ _ _ => (pg_name (i := 3) sc_need_plan.nd rfl (Or.inl rfl))) (fun _ _ _ _ _ => pts_nil) (fun _ _ _ _ _ => (pe_callTy (T := "tuple") (r := cTup K) call_cTup (by rfl) T.n_tuple (by decide +kernel) (pa_cons (pv 3) pa_nil)))) pa_nil))))))), ?body⟩
  case len => intro ss R RE hc; (first | (obtain ⟨_, rfl, _⟩ := hc; rfl) | (obtain ⟨_, _, rfl, _⟩ := hc; rfl) | (obtain ⟨_, _, _, rfl, _⟩ := hc; rfl) | (obtain ⟨_, _, _, _, rfl, _⟩ := hc; rfl) | (obtain ⟨_, _, _, _, _, rfl, _⟩ := hc; rfl))
  case body =>
  rintro W ss R RE _ _ ⟨mS, s, mk, es, sts, rfl, hk, hs, ha, h1, h20, hbad, hgood⟩ hE
  obtain ⟨ks, hks, hsq⟩ := kd_seq (le_seq hs)
  repeat (wtm_at "d")
  refine evp_arg rfl hk ?_
  repeat (wtm_at "d")
  refine ⟨ok1 hk, _, mk, rfl, kd_al hk, _, rfl, ⟨fun h => ?_, fun h => ?_⟩⟩
  · -- no number
    rw [py_arg] at h
    refine ⟨fun _ => ?_, fun h => Bool.noConfusion h⟩
    refine sd_raise hE ?_
    repeat (wtm_at "d")
    refine ⟨_, rfl, hbad (num_many (by cases e : numD (slotPy mS) <;> simp_all))⟩
  rw [py_arg] at h
  obtain ⟨M, rfl, h0⟩ := num_int hk (by cases e : numD (slotPy mS) <;> simp_all)
  have hgood := hgood M rfl
  repeat (wtm_at "d")
  refine ⟨fun c1 => ?_, fun c1 => ?_⟩
  all_goals repeat (wtm_at "d")
  · refine ⟨fun c2 => ?_, fun c2 => ?_⟩
    · -- too many
      refine sd_raise hE ?_
      repeat (wtm_at "d")
      refine ⟨_, rfl, hbad ?_⟩
      show (decide (1 ≤ M) && decide (M ≤ 12)) = false
      rw [c1]
      simpa using c2
    have hM : okMany (.int M) = true := by
      show (decide (1 ≤ M) && decide (M ≤ 12)) = true
      rw [c1]
      simpa using c2
    obtain ⟨hg1, hg2⟩ := hgood hM
    have hl : es.length = sts.length := ha.1
    repeat (wtm_at "d")
    refine evp_arg rfl hks ?_
    repeat (wtm_at "d")
    refine ⟨ok1 hks, _, ks, rfl, kd_al hks, _, rfl, ⟨fun h => ?_, fun _ => ?_⟩⟩
    · rw [hsq] at h; cases h
    repeat (wtm_at "d")
    refine evp_seq rfl (le_seq hs) ?_
    repeat (wtm_at "d")
    refine cap_len (seqS_lend (le_seq hs)) ?_
    repeat (wtm_at "d")
    refine ⟨fun _ => ?_, fun h => ?_⟩
    · repeat (wtm_at "d")
      refine ⟨fun h => ?_, fun _ => ?_⟩
      · exfalso
        have : (es.length : Int) ≤ 20 := by omega
        rw [decide_eq_true this] at h; cases h
      repeat (wtm_at "d")
      refine sd_for (vs := [2, 3]) (wfp_enum ?_)
      repeat (wtm_at "d")
      refine evp_seq rfl (le_seq hs) ?_
      repeat (wtm_at "d")
      refine ⟨_, es, rfl, le_lend hs, fun i ρ => ∃ u v, ρ = [.dat (.int M), s, u, v] ∧ badAt M 0 sts = badAt M i (sts.drop i), ⟨_, _, rfl, rfl⟩, fun i ρ hi hI => ?_, fun ρ hI => ?_⟩
      · obtain ⟨u, v, rfl, hbd⟩ := hI
        obtain ⟨st, hst⟩ : ∃ st, sts[i]? = some st := ⟨_, List.getElem?_eq_getElem (by omega)⟩
        have hat := ha.2 i st hst
        have hdr : sts.drop i = st :: sts.drop (i + 1) := by
          rw [List.drop_eq_getElem_cons (show i < sts.length by omega)]
          rw [List.getElem?_eq_getElem (show i < sts.length by omega)] at hst
          rw [Option.some.inj hst]
        rw [hdr] at hbd
        refine gap_tup rfl (gas_cons (gap_name (by decide) (gas_cons (gap_name (by decide) (gas_nil ?_)))))
        repeat (wtm_at "d")
        refine ⟨rfl, M, (i : Int), _, st, rfl, hat.seq, hat.2, ?_⟩
        refine ⟨_, rfl, fun h => ?_, fun h => ?_⟩
        · have e : badAt M 0 sts = some i := by
            rw [hbd]
            unfold badAt
            rw [if_neg (by cases e : okStp M (i : Int) st <;> simp_all)]
          refine sd_raise hE ?_
          repeat (wtm_at "d")
          exact ⟨_, rfl, hg2 i e⟩
        · repeat (wtm_at "d")
          refine ⟨_, _, rfl, ?_⟩
          rw [hbd]
          conv => lhs; unfold badAt
          rw [if_pos (by cases e : okStp M (i : Int) st <;> simp_all)]
      · obtain ⟨u, v, rfl, hbd⟩ := hI
        have e : badAt M 0 sts = none := by
          rw [hbd, List.drop_eq_nil_of_le (by omega)]; rfl
        have hR := hg1 e
        show SD W _ _ _
        repeat (wtm_at "d")
        refine evp_new (evf_map (wip_seq ?_))
        refine evp_seq rfl (le_seq hs) ?_
        refine ⟨es, seqS_lend (le_seq hs), by omega, fun i => .tup ((sts.getD i default).ds), fun i hi => gap_name (by decide) ?_, ?_⟩
        · have hat := ha.2 i (sts.getD i default) (by rw [List.getD_eq_getElem?_getD, List.getElem?_eq_getElem (by omega)]; rfl)
          repeat (wtm_at "d")
          exact cap_tuple hat.seq rfl
        · repeat (wtm_at "d")
          refine cap_tuple (.lst _) ?_
          repeat (wtm_at "d")
          rw [hl, range_mapf (fun st : Stp => DD.tup st.ds) sts]
          exact hR
    · exfalso
      have : (1 : Int) ≤ es.length := by omega
      rw [decide_eq_true this] at h; cases h
  · refine ⟨fun c2 => ?_, fun c2 => ?_⟩
    · refine sd_raise hE ?_
      repeat (wtm_at "d")
      refine ⟨_, rfl, hbad ?_⟩
      show (decide (1 ≤ M) && decide (M ≤ 12)) = false
      rw [c1]; rfl
    · cases c2
end Dl

set_option Elab.async false
set_option linter.all false
set_option maxRecDepth 100000
set_option maxHeartbeats 1000000
namespace Dl
open PySem PySem.Spec PyProof.Rows L2
local macro_rules | `(tactic| wtm_at "d") => `(tactic| first
  | with_reducible refine sd_seq ?_ | with_reducible refine sd_if ?_ | with_reducible refine sd_ret ?_
  | with_reducible refine evp_op ?_ | with_reducible refine evp_un ?_ | with_reducible refine evp_cb ?_ | with_reducible refine evp_tupD ?_
  | with_reducible refine evp_andV ?_ | with_reducible refine evp_orV ?_ | with_reducible refine evp_notV ?_ | with_reducible refine evp_if ?_
  | with_reducible refine evt_test ?_ | with_reducible refine evt_B ?_ | with_reducible refine evt_and ?_ | with_reducible refine evt_or ?_ | with_reducible refine evt_not ?_
  | with_reducible refine eva_cons ?_ | with_reducible refine eva_nil ?_
  | with_reducible refine evp_int ?_ | with_reducible refine evp_str ?_ | with_reducible refine evp_bl ?_ | with_reducible refine evp_non ?_ | with_reducible refine evp_any ?_
  | (with_reducible refine evp_isv ?_; refine evp_dat rfl ?_)
  | with_reducible refine evp_callP ?_ | with_reducible refine evp_chain ?_
  | with_reducible refine sd_next ?_
  | with_reducible refine opp_add ?_ | with_reducible refine opp_sub ?_ | with_reducible refine opp_lt ?_ | with_reducible refine opp_le ?_ | with_reducible refine opp_gt ?_ | with_reducible refine opp_ge ?_
  | with_reducible refine opp_isN ?_ | with_reducible refine opp_notN ?_ | with_reducible refine unp_neg ?_
  | with_reducible refine ex_bl ?_ | with_reducible refine ex_dat ?_ | with_reducible refine ex_int ?_)
local macro_rules | `(tactic| wtm_at "e") => `(tactic| first | wtm_at "d" | with_reducible refine sd_set ?_)
variable {P : Program} {w : World} {K : PySem.W.Frag} {mg : Str → Option Value} {base : Heap} {A : Ads}
/-- a signed letter, a text of one letter -/
def ltr (l s : Int) : DD := .tup [.int l, .int s]
def txt (l : Int) (n : Nat) : DD := .tup (List.replicate n (.int l))
def Lt (l : Int) : Prop := 0 ≤ l ∧ l < 100
def Sg (s : Int) : Prop := s = 1 ∨ s = -1
theorem items_rep {n i : Nat} {d : DD} (h : i < n) : itemsOf (List.replicate n d) i = d := itemsOf_eq (by rw [List.getElem?_replicate, if_pos h])
abbrev c_is_signed : List Slot → (DD → Prop) → Prop := fun ss R => ∃ l s, ss = [.dat (ltr l s)] ∧ Lt l ∧ Sg s ∧ R (.bl true)
theorem ok_is_signed (T : Txt K mg A) : FD P w K mg base CX0 5 A.is_signed ["value"] (spP c_is_signed) := by
  obtain ⟨fd, F⟩ := T.F_is_signed
  obtain ⟨k_is_sequence, fd_is_sequence, G_is_sequence, B_is_sequence⟩ := ok_is_sequence (P := P) (w := w) (base := base) T
  obtain ⟨k_is_integer, fd_is_integer, G_is_integer, B_is_integer⟩ := ok_is_integer (P := P) (w := w) (base := base) T
  obtain ⟨k_is_letter, fd_is_letter, G_is_letter, B_is_letter⟩ := ok_is_letter (P := P) (w := w) (base := base) T
  refine ⟨F.kp, fd, ?_, F.binds fun _ _ _ _ _ _ us hl => match us, hl with | [_], _ => rfl⟩
  refine fn_sd F sc_is_signed no_mut no_mut2 ?len (by decide) fun cdv B outer s H E hr => ⟨_,
    (pss_cons (ps_if (PW.pt (pw_or (pt_not (pt_val (pe_call G_is_sequence (hr.mono (by decide)) (by rfl) T.g_is_sequence k_is_sequence B_is_sequence .nil pass0 (pa_cons (pv 0) pa_nil)))) (pw_or1 (pt_cmpR (r := rNeD K) (op_neD hr.units) (pe_callB (r := cLen K) call_cLen (by rfl) T.n_len (by decide +kernel) (pa_cons (pv 0) pa_nil)) pe_int (nomark _)))))
      (pss_one (ps_ret pe_bl))
      pss_nil)
      (pss_one (ps_ret (pe_and (pe_call G_is_letter (hr.mono (by decide)) (by rfl) T.g_is_letter k_is_letter B_is_letter .nil pass0 (pa_cons (pe_ix (r := rIx K) ix_seq (pv 0) pe_int (fun _ _ => rfl)) pa_nil)) (pe_and (pe_call G_is_integer (hr.mono (by decide)) (by rfl) T.g_is_integer k_is_integer B_is_integer .nil pass0 (pa_cons (pe_ix (r := rIx K) ix_seq (pv 0) pe_int (fun _ _ => rfl)) pa_nil)) (pe_one (pe_cmpR (r := rIn K false) op_in_seq (pe_ix (r := rIx K) ix_seq (pv 0) pe_int (fun _ _ => rfl)) (pe_tup (pa_cons pe_int (pa_cons (pe_un un_negI pe_int) pa_nil))) (by rfl)))))))), ?body⟩
  case len => intro ss R RE hc; (first | (obtain ⟨_, rfl, _⟩ := hc; rfl) | (obtain ⟨_, _, rfl, _⟩ := hc; rfl) | (obtain ⟨_, _, _, rfl, _⟩ := hc; rfl) | (obtain ⟨_, _, _, _, rfl, _⟩ := hc; rfl) | (obtain ⟨_, _, _, _, _, rfl, _⟩ := hc; rfl))
  case body =>
    rintro W ss R RE _ _ ⟨l, s, rfl, hl, hs, hR⟩
    repeat (wtm_at "d")
    refine ⟨rfl, _, .tup, rfl, rfl, _, rfl, fun h => ff h, fun _ => ?_⟩
    repeat (wtm_at "d")
    refine cap_len (.tup _) ?_
    repeat (wtm_at "d")
    refine opp_ne (n := 0) (by decide) (nn _) (nn _) rfl rfl fun x hx => ?_
    have hx : x = false := (bl_of_iff hx).2 fun z => z rfl
    subst hx
    repeat (wtm_at "d")
    refine ⟨fun h => ff h, fun _ => ?_⟩
    repeat (wtm_at "d")
    refine opp_ix (i := 0) (.tup _) rfl ?_
    repeat (wtm_at "d")
    refine ⟨rfl, _, .int, rfl, rfl, _, rfl, fun _ => ?_, fun h => ?_⟩
    · repeat (wtm_at "d")
      refine opp_ix (i := 1) (.tup _) rfl ?_
      repeat (wtm_at "d")
      refine ⟨rfl, _, .int, rfl, rfl, _, rfl, fun _ => ?_, fun h => ?_⟩
      · repeat (wtm_at "d")
        refine opp_ix (i := 1) (.tup _) rfl ?_
        repeat (wtm_at "d")
        refine ⟨_, rfl, by decide, ?_⟩
        refine opp_in (ns := [1, -1]) (.tup _) ?_
        repeat (wtm_at "d")
        have : s ∈ [(1 : Int), -1] := by rcases hs with h | h <;> simp [h]
        rw [decide_eq_true this]
        exact hR
      · cases h
    · exfalso
      have h : (decide (0 ≤ l) && decide (l < 100)) = false := h
      rw [decide_eq_true hl.1, decide_eq_true hl.2] at h; cases h
abbrev c_turned : List Slot → (DD → Prop) → Prop := fun ss R => ∃ l s, ss = [.dat (ltr l s)] ∧ R (ltr l (-s))
theorem ok_turned (T : Txt K mg A) : FD P w K mg base CX0 1 A.turned ["one"] (spP c_turned) := by
  obtain ⟨fd, F⟩ := T.F_turned
  refine ⟨F.kp, fd, ?_, F.binds fun _ _ _ _ _ _ us hl => match us, hl with | [_], _ => rfl⟩
  refine fn_sd F sc_turned no_mut no_mut2 ?len (by decide) fun cdv B outer s H E hr => ⟨_,
    (pss_one (ps_ret (pe_tup (pa_cons (pe_ix (r := rIx K) ix_seq (pv 0) pe_int (fun _ _ => rfl)) (pa_cons (pe_un un_negI (pe_ix (r := rIx K) ix_seq (pv 0) pe_int (fun _ _ => rfl))) pa_nil))))), ?body⟩
  case len => intro ss R RE hc; (first | (obtain ⟨_, rfl, _⟩ := hc; rfl) | (obtain ⟨_, _, rfl, _⟩ := hc; rfl) | (obtain ⟨_, _, _, rfl, _⟩ := hc; rfl) | (obtain ⟨_, _, _, _, rfl, _⟩ := hc; rfl) | (obtain ⟨_, _, _, _, _, rfl, _⟩ := hc; rfl))
  case body =>
    rintro W ss R RE _ _ ⟨l, s, rfl, hR⟩
    repeat (wtm_at "d")
    refine opp_ix (i := 0) (.tup _) rfl ?_
    repeat (wtm_at "d")
    refine opp_ix (i := 1) (.tup _) rfl ?_
    repeat (wtm_at "d")
    refine ⟨_, rfl, (show 2 ≤ 100000 by decide), ?_⟩
    repeat (wtm_at "d")
    exact hR
/-- the stack of one letter -/
def sgn (z : Int) : Int := if z < 0 then -1 else 1
def stk (l z : Int) : List DD := List.replicate z.natAbs (ltr l (sgn z))
theorem stk_pop {l z x : Int} (hz : z ≠ 0) (hx : Sg x) (e : sgn z = -x) : stk l z = stk l (z + x) ++ [ltr l (sgn z)] := by
  unfold stk
  unfold sgn at e ⊢
  by_cases h : z < 0
  · rw [if_pos h] at e ⊢
    have ex : x = 1 := by omega
    subst ex
    have : z.natAbs = (z + 1).natAbs + 1 := by omega
    rw [this, List.replicate_succ']
    by_cases h0 : z + 1 < 0
    · rw [if_pos h0]
    · have : (z + 1).natAbs = 0 := by omega
      rw [this]; rfl
  · rw [if_neg h] at e ⊢
    have ex : x = -1 := by omega
    subst ex
    have : z.natAbs = (z + -1).natAbs + 1 := by omega
    rw [this, List.replicate_succ', if_neg (show ¬ z + -1 < 0 by omega)]
theorem stk_app {l z x : Int} (hx : Sg x) (e : z = 0 ∨ sgn z ≠ -x) : stk l z ++ [ltr l x] = stk l (z + x) := by
  unfold stk
  unfold sgn at e ⊢
  by_cases h : z < 0
  · rw [if_pos h] at e ⊢
    have ex : x = -1 := by rcases hx with h | h <;> omega
    subst ex
    have : (z + -1).natAbs = z.natAbs + 1 := by omega
    rw [this, List.replicate_succ', if_pos (show z + -1 < 0 by omega)]
  · rw [if_neg h] at e ⊢
    by_cases h0 : z = 0
    · subst h0
      rcases hx with h | h <;> subst h <;> rfl
    · have ex : x = 1 := by rcases hx with h | h <;> omega
      subst ex
      have : (z + 1).natAbs = z.natAbs + 1 := by omega
      rw [this, List.replicate_succ', if_neg (show ¬ z + 1 < 0 by omega)]
theorem pl_ltr (l s : Int) : pl 1 (ltr l s) = true := rfl
theorem sum_take_succ {ns : List Int} {i : Nat} {x : Int} (h : ns[i]? = some x) : (ns.take (i + 1)).sum = (ns.take i).sum + x := by
  rw [List.take_add_one, h]
  simp
theorem stk_len {l z : Int} : (stk l z).length = z.natAbs := by unfold stk; simp
theorem sg_abs : ∀ {sg : List Int}, (∀ x ∈ sg, Sg x) → sg.sum.natAbs ≤ sg.length
  | [], _ => by simp
  | x :: r, h => by
    have ih := sg_abs (sg := r) fun y hy => h y (List.mem_cons_of_mem _ hy)
    have hx := h x List.mem_cons_self
    simp only [List.sum_cons, List.length_cons]
    rcases hx with e | e <;> omega
theorem stk_last {l z : Int} (h : z ≠ 0) : atI (stk l z) (-1) = some (ltr l (sgn z)) := by
  unfold stk
  have : z.natAbs = (z.natAbs - 1) + 1 := by omega
  rw [this, List.replicate_succ']
  exact atI_last _ _
theorem ltr_inj {l a b : Int} (h : slotPy (.dat (ltr l a)) = slotPy (.dat (ltr l b))) : a = b := by
  have h : DD.tup [.int l, .int a] = .tup [.int l, .int b] := h
  simpa using h
abbrev c_struck_row : List Slot → (DD → Prop) → Prop := fun ss R => ∃ s l sg, ss = [s] ∧ LeS s (List.map (ltr l) sg) ∧ (∀ x ∈ sg, Sg x) ∧ sg.length ≤ 1000 ∧ R (.tup (stk l sg.sum))
theorem ok_struck_row (T : Txt K mg A) : FD P w K mg base CX0 2 A.struck_row ["word"] (spP c_struck_row) := by
  obtain ⟨fd, F⟩ := T.F_struck_row
  obtain ⟨k_turned, fd_turned, G_turned, B_turned⟩ := ok_turned (P := P) (w := w) (base := base) T
  refine ⟨F.kp, fd, ?_, F.binds fun _ _ _ _ _ _ us hl => match us, hl with | [_], _ => rfl⟩
  refine fn_sd F sc_struck_row no_mut no_mut2 ?len (by decide) fun cdv B outer s H E hr => ⟨_,
    (pss_cons (ps_set (i := 1) sc_struck_row.nd rfl (Or.inl rfl) (pe_lst pa_nil))
      (pss_cons (ps_for PassesOwn.never rfl (pi_seq (pv 0)) (pg_name (i := 2) sc_struck_row.nd rfl (Or.inl rfl))
      (pss_one (ps_if (PW.pt (pw_and (pt_cmpR op_gtI (pe_callB (r := cLen K) call_cLen (by rfl) T.n_len (by decide +kernel) (pa_cons (pv 1) pa_nil)) pe_int (nomark _)) (pw_and1 (pt_cmpR (r := rEqD K) (op_eqD hr.units) (pe_ix (r := rIx K) ix_seq (pv 1) (pe_un un_negI pe_int) (fun _ _ => rfl)) (pe_call G_turned (hr.mono (by decide)) (by rfl) T.g_turned k_turned B_turned .nil pass0 (pa_cons (pv 2) pa_nil)) (nomark _)))))
      (pss_one (ps_expr (pe_bm0 PySem.F.plainAttrs_list PySem.F.slot_list_pop PySem.F.type_list_pop mt_pop (pv 1))))
      (pss_one (ps_expr (pe_bm PySem.F.plainAttrs_list PySem.F.slot_list_append PySem.F.type_list_append mt_append (pv 1) (pa_cons (pv 2) pa_nil)))))))
      (pss_one (ps_ret (pe_callTy (T := "tuple") (r := cTup K) call_cTup (by rfl) T.n_tuple (by decide +kernel) (pa_cons (pv 1) pa_nil)))))), ?body⟩
  case len => intro ss R RE hc; (first | (obtain ⟨_, rfl, _⟩ := hc; rfl) | (obtain ⟨_, _, rfl, _⟩ := hc; rfl) | (obtain ⟨_, _, _, rfl, _⟩ := hc; rfl) | (obtain ⟨_, _, _, _, rfl, _⟩ := hc; rfl) | (obtain ⟨_, _, _, _, _, rfl, _⟩ := hc; rfl))
  case body =>
    rintro W ss R RE _ _ ⟨s, l, sg, rfl, hs, hsg, hlen, hR⟩
    have hl : (List.map (ltr l) sg).length = sg.length := by simp
    repeat (wtm_at "d")
    refine sd_own (evf_lstD ?_)
    repeat (wtm_at "d")
    refine ⟨_, rfl, by decide, ?_⟩
    repeat (wtm_at "d")
    refine sd_for (vs := [2]) (wfp_seq ?_)
    refine evp_seq rfl (le_seq hs) ?_
    refine ⟨_, le_lend hs, fun i ρ => ∃ u, ρ = [s, .seq .own (stk l (sg.take i).sum), u], ⟨_, rfl⟩, fun i ρ hi hI => ?_, fun ρ hI => ?_⟩
    · obtain ⟨u, rfl⟩ := hI
      rw [hl] at hi
      have hx : sg[i]? = some sg[i] := List.getElem?_eq_getElem hi
      have hsx := hsg _ (List.getElem_mem hi)
      have hab := sg_abs (sg := sg.take i) fun y hy => hsg y (List.mem_of_mem_take hy)
      have hab2 : (sg.take i).sum.natAbs ≤ 1000 := Nat.le_trans hab (by rw [List.length_take]; omega)
      have hit : itemsOf (List.map (ltr l) sg) i = ltr l sg[i] := itemsOf_eq (by rw [List.getElem?_map, hx]; rfl)
      have e2 := sum_take_succ hx
      generalize sg[i] = x at hx hsx hit e2
      generalize (sg.take i).sum = z at hab hab2 e2 ⊢
      rw [hit]
      refine gap_name (by decide) ?_
      repeat (wtm_at "d")
      refine evp_var (s := .seq .own (stk l z)) rfl (fun h => nomatch h) ?_
      repeat (wtm_at "d")
      refine cap_len (.seq _ _) ?_
      repeat (wtm_at "d")
      have app : ∀ E : DE, (∀ u, E.nx [s, .seq .own (stk l (sg.take (i + 1)).sum), u]) → z = 0 ∨ sgn z ≠ -x → SD W (tDrop (tBM K "list" rAppend (tVar 1) (tCons (tVar 2) tNil))) [s, .seq .own (stk l z), .dat (ltr l x)] E := fun E hE h => by
        refine sd_app rfl (by rw [stk_len]; omega) ?_
        repeat (wtm_at "d")
        have := hE (.dat (ltr l x))
        rw [e2, ← stk_app hsx h] at this
        exact this
      refine ⟨fun h => ?_, fun h => ?_⟩
      · have hz : z ≠ 0 := fun e => by
          subst e
          exact absurd (of_decide_eq_true h) (by rw [stk_len]; simp)
        repeat (wtm_at "d")
        refine evp_var (s := .seq .own (stk l z)) rfl (fun h => nomatch h) ?_
        repeat (wtm_at "d")
        refine opp_ix (i := -1) (.seq _ _) (stk_last hz) ?_
        repeat (wtm_at "d")
        refine ⟨rfl, l, x, rfl, ?_⟩
        refine opp_eq (n := 1) (by decide) (nn _) (nn _) rfl rfl fun b hb => ?_
        repeat (wtm_at "d")
        refine ⟨fun hb2 => ?_, fun hb2 => ?_⟩
        · have e := ltr_inj (hb.mp hb2)
          have e3 := stk_pop (l := l) hz hsx e
          refine sd_pop (ds := stk l (z + x)) (d := ltr l (sgn z)) (by rw [← e3]; rfl) ?_
          refine ⟨.dat (ltr l x), ?_⟩
          rw [e2]; rfl
        · exact app _ (fun u => ⟨u, rfl⟩) (.inr fun e => by
            have := hb.mpr (by show ltr l (sgn z) = ltr l (-x); rw [e])
            rw [hb2] at this; cases this)
      · exact ⟨fun h => Bool.noConfusion h, fun _ => app _ (fun u => ⟨u, rfl⟩) (.inl (by
          have := of_decide_eq_false h
          rw [stk_len] at this; omega))⟩
    · obtain ⟨u, rfl⟩ := hI
      rw [hl, List.take_length]
      show SD W _ _ _
      repeat (wtm_at "d")
      refine evp_var (s := .seq .own (stk l sg.sum)) rfl (fun h => nomatch h) ?_
      repeat (wtm_at "d")
      refine cap_tuple (.seq _ _) ?_
      repeat (wtm_at "d")
      exact hR
end Dl

set_option Elab.async false
set_option linter.all false
set_option maxRecDepth 100000
set_option maxHeartbeats 1000000
namespace Dl
open PySem PySem.Spec PyProof.Rows L2
local macro_rules | `(tactic| wtm_at "d") => `(tactic| first
  | with_reducible refine sd_seq ?_ | with_reducible refine sd_if ?_ | with_reducible refine sd_ret ?_
  | with_reducible refine evp_op ?_ | with_reducible refine evp_un ?_ | with_reducible refine evp_cb ?_ | with_reducible refine evp_tupD ?_
  | with_reducible refine evp_andV ?_ | with_reducible refine evp_orV ?_ | with_reducible refine evp_notV ?_ | with_reducible refine evp_if ?_
  | with_reducible refine evt_test ?_ | with_reducible refine evt_B ?_ | with_reducible refine evt_and ?_ | with_reducible refine evt_or ?_ | with_reducible refine evt_not ?_
  | with_reducible refine eva_cons ?_ | with_reducible refine eva_nil ?_
  | with_reducible refine evp_int ?_ | with_reducible refine evp_str ?_ | with_reducible refine evp_bl ?_ | with_reducible refine evp_non ?_ | with_reducible refine evp_any ?_
  | (with_reducible refine evp_isv ?_; refine evp_dat rfl ?_)
  | with_reducible refine evp_callP ?_ | with_reducible refine evp_chain ?_
  | with_reducible refine sd_next ?_
  | with_reducible refine opp_add ?_ | with_reducible refine opp_sub ?_ | with_reducible refine opp_lt ?_ | with_reducible refine opp_le ?_ | with_reducible refine opp_gt ?_ | with_reducible refine opp_ge ?_
  | with_reducible refine opp_isN ?_ | with_reducible refine opp_notN ?_ | with_reducible refine unp_neg ?_
  | with_reducible refine ex_bl ?_ | with_reducible refine ex_dat ?_ | with_reducible refine ex_int ?_)
local macro_rules | `(tactic| wtm_at "e") => `(tactic| first | wtm_at "d" | with_reducible refine sd_set ?_)
variable {P : Program} {w : World} {K : PySem.W.Frag} {mg : Str → Option Value} {base : Heap} {A : Ads}
theorem cap_allR {W : Wd} {P : Slot → Prop} {n : Nat} {f : Nat → Bool} (k : P (.dat (.bl ((List.range n).all f)))) : CaP W (rAll K) [.dat (.lst ((List.range n).map fun i => .bl (f i)))] P := by
  have e : (List.range n).map (fun i => DD.bl (f i)) = ((List.range n).map f).map .bl := by rw [List.map_map]; rfl
  rw [e]
  exact cap_all (.lst _) (by rw [List.all_map]; exact k)
/-- xs.extend(e), e any list -/
theorem sd_extS {W : Wd} {ρ : List Slot} {E : DE} {te : TE} {i : Nat} {ds : List DD} (hi : ρ[i]? = some (.seq .own ds)) (h : EvP W te ρ fun s => ∃ es, LsS s es ∧ ds.length + es.length ≤ 100000 ∧ E.nx (ρ.set i (.seq .own (ds ++ es)))) :
    SD W (tDrop (tBM K "list" rExtend (tVar i) (tCons te tNil))) ρ E := fun σ G H S D F => by
  obtain ⟨x, h1, l, xs, rfl, h2, h3, h4, h5, _, h6⟩ := S.sl i _ hi (fun z => by cases z)
  refine ⟨_, h1, .inl ⟨rfl, xs, SqL.of h2⟩, ?_⟩
  refine h σ G H S _ fun y G1 H1 s f1 v1 ⟨es, hs, hz, k⟩ => ?_
  have c := S.cur.trans f1
  obtain ⟨p, ys, rfl, hy, ra⟩ := hs.get v1 c.gh
  have h2' := f1.keep l _ h4 h2
  have h3' := f1.dom l (by rw [h2]; exact fun z => nomatch z) h3
  refine ⟨l, p, xs, ys, rfl, rfl, h2', hy, by rw [h6.length, ra.length]; exact sz_le hz, ?_⟩
  exact F.nx _ G1 _ _ ((S.go f1).upd hi h1 h2' h3' h4 (h5 rfl) ((h6.mono f1.gg).append ra)) f1.gg k
theorem items_all (ds : List DD) : (List.range ds.length).map (fun i => itemsOf ds i) = ds := by
  apply List.ext_getElem
  · simp
  · intro i h1 h2
    simp [itemsOf_eq (List.getElem?_eq_getElem (show i < ds.length from h2))]
theorem le_arg {s : Slot} {ds : List DD} (h : LeS s ds) : LeS (toArg s) ds := by
  cases h with
  | lst => exact .lst _
  | tup => exact .tup _
  | seq => exact .seq _
abbrev c_need_word : List Slot → (DD → Prop) → Prop := fun ss R => ∃ s at' l sg, ss = [s, .dat (.int at')] ∧ LeS s (List.map (ltr l) sg) ∧ Lt l ∧ (∀ x ∈ sg, Sg x) ∧ sg.length ≤ 1000 ∧ R (.tup (List.map (ltr l) sg))
theorem ok_need_word (T : Txt K mg A) : FDD P w K mg base CX0 6 A.need_word ["value", "at"] (spP c_need_word) := by
  obtain ⟨fd, F⟩ := T.F_need_word
  obtain ⟨k_is_signed, fd_is_signed, G_is_signed, B_is_signed⟩ := ok_is_signed (P := P) (w := w) (base := base) T
  obtain ⟨k_is_sequence, fd_is_sequence, G_is_sequence, B_is_sequence⟩ := ok_is_sequence (P := P) (w := w) (base := base) T
  obtain ⟨ds, hv, B⟩ := F.binds1 (ps := ["value", "at"]) 1 0 (by simp) rfl (fun _ _ _ _ _ _ _ us its h1 h2 => match us, its, h1, h2 with | [_], [_], _, _ => ⟨_, rfl, rfl⟩)
  refine ⟨F.kp, fd, ds, ?_, B, hv⟩
  refine fn_sdD F sc_need_word ?len (by decide) fun cdv B outer s H E hr => ⟨_,
    (pss_cons (ps_if (PW.pt (pw_or (pt_not (pt_val (pe_call G_is_sequence (hr.mono (by decide)) (by rfl) T.g_is_sequence k_is_sequence B_is_sequence .nil pass0 (pa_cons (pv 0) pa_nil)))) (pw_or1 (pt_not (pt_val (pe_callB (r := rAll K) (cr_all rfl) (by rfl) T.n_all (by decide +kernel) (pa_cons (pe_lc (own := [("one", 2)]) (g := (gName 2)) (by rfl) sc_need_word.nd (pi_seq (pv 0)) (blkOk_by (own := [("one", 2)]) (N := N_need_word) (sc := defScope s_need_word) (by decide +kernel)) (fun _ _ _ _ _ => (pg_name (i := 2) sc_need_word.nd rfl (Or.inl rfl))) (fun _ _ _ _ _ => pts_nil) (fun _ _ _ _ _ => (pe_call G_is_signed (hr.mono (by decide)) (by rfl) T.g_is_signed k_is_signed B_is_signed .nil pass0 (pa_cons (pv 2) pa_nil)))) pa_nil)))))))
      (pss_one ps_never)
      pss_nil)
      (pss_one (ps_ret (pe_callTy (T := "tuple") (r := cTup K) call_cTup (by rfl) T.n_tuple (by decide +kernel) (pa_cons (pe_lc (own := [("one", 2)]) (g := (gName 2)) (by rfl) sc_need_word.nd (pi_seq (pv 0)) (blkOk_by (own := [("one", 2)]) (N := N_need_word) (sc := defScope s_need_word) (by decide +kernel)) (fun _ _ _ _ _ => (pg_name (i := 2) sc_need_word.nd rfl (Or.inl rfl))) (fun _ _ _ _ _ => pts_nil) (fun _ _ _ _ _ => (pe_callTy (T := "tuple") (r := cTup K) call_cTup (by rfl) T.n_tuple (by decide +kernel) (pa_cons (pv 2) pa_nil)))) pa_nil)))))
    , ?body⟩
  case len => rintro ss R RE ⟨_, _, _, _, rfl, _⟩; rfl
  case body =>
    rintro W ss R RE _ _ ⟨s, at', l, sg, rfl, hs, hl, hsg, hlen, hR⟩
    have hll : (List.map (ltr l) sg).length = sg.length := by simp
    obtain ⟨ks, hks, hsq⟩ := kd_seq (le_seq hs)
    have hit : ∀ i, i < (List.map (ltr l) sg).length → ∃ x, itemsOf (List.map (ltr l) sg) i = ltr l x ∧ Sg x := fun i hi => by
      rw [hll] at hi
      exact ⟨sg[i], itemsOf_eq (by rw [List.getElem?_map, List.getElem?_eq_getElem hi]; rfl), hsg _ (List.getElem_mem hi)⟩
    repeat (wtm_at "d")
    refine evp_arg rfl hks ?_
    repeat (wtm_at "d")
    refine ⟨ok1 hks, _, ks, rfl, kd_al hks, _, rfl, ⟨fun h => ?_, fun _ => ?_⟩⟩
    · rw [hsq] at h; cases h
    repeat (wtm_at "d")
    refine evp_new (evf_map (wip_seq ?_))
    refine evp_seq rfl (le_seq hs) ?_
    refine ⟨_, seqS_lend (le_seq hs), by omega, fun i => .bl true, fun i hi => gap_name (by decide) ?_, ?_⟩
    · obtain ⟨x, e, hx⟩ := hit i hi
      rw [e]
      repeat (wtm_at "d")
      exact ⟨rfl, l, x, rfl, hl, hx, rfl⟩
    · repeat (wtm_at "d")
      refine cap_allR (f := fun _ => true) ?_
      have e : ((List.range (List.map (ltr l) sg).length).all fun _ => true) = true := by simp
      rw [e]
      repeat (wtm_at "d")
      refine ⟨fun h => ff h, fun _ => ?_⟩
      repeat (wtm_at "d")
      refine evp_new (evf_map (wip_seq ?_))
      refine evp_seq rfl (le_seq hs) ?_
      refine ⟨_, seqS_lend (le_seq hs), by omega, fun i => itemsOf (List.map (ltr l) sg) i, fun i hi => gap_name (by decide) ?_, ?_⟩
      · obtain ⟨x, e, hx⟩ := hit i hi
        rw [e]
        repeat (wtm_at "d")
        exact cap_tuple (.tup _) (congrArg Slot.dat e.symm)
      · repeat (wtm_at "d")
        refine cap_tuple (.lst _) ?_
        repeat (wtm_at "d")
        rw [items_all]
        exact hR
abbrev c_is_text : List Slot → (DD → Prop) → Prop := fun ss R => ∃ l n, ss = [.dat (txt l n)] ∧ Lt l ∧ n ≤ 1000 ∧ R (.bl true)
theorem ok_is_text (T : Txt K mg A) : FD P w K mg base CX0 5 A.is_text ["value"] (spP c_is_text) := by
  obtain ⟨fd, F⟩ := T.F_is_text
  obtain ⟨k_is_letter, fd_is_letter, G_is_letter, B_is_letter⟩ := ok_is_letter (P := P) (w := w) (base := base) T
  obtain ⟨k_is_sequence, fd_is_sequence, G_is_sequence, B_is_sequence⟩ := ok_is_sequence (P := P) (w := w) (base := base) T
  refine ⟨F.kp, fd, ?_, F.binds fun _ _ _ _ _ _ us hl => match us, hl with | [_], _ => rfl⟩
  refine fn_sd F sc_is_text no_mut no_mut2 ?len (by decide) fun cdv B outer s H E hr => ⟨_,
    (pss_one (ps_ret (pe_and (pe_call G_is_sequence (hr.mono (by decide)) (by rfl) T.g_is_sequence k_is_sequence B_is_sequence .nil pass0 (pa_cons (pv 0) pa_nil)) (pe_one (pe_callB (r := rAll K) (cr_all rfl) (by rfl) T.n_all (by decide +kernel) (pa_cons (pe_lc (own := [("one", 1)]) (g := (gName 1)) (by rfl) sc_is_text.nd (pi_seq (pv 0)) (blkOk_by (own := [("one", 1)]) (N := N_is_text) (sc := defScope s_is_text) (by decide +kernel)) (fun _ _ _ _ _ => (pg_name (i := 1) sc_is_text.nd rfl (Or.inl rfl))) (fun _ _ _ _ _ => pts_nil) (fun _ _ _ _ _ => (pe_call G_is_letter (hr.mono (by decide)) (by rfl) T.g_is_letter k_is_letter B_is_letter .nil pass0 (pa_cons (pv 1) pa_nil)))) pa_nil)))))), ?body⟩
  case len => intro ss R RE hc; (first | (obtain ⟨_, rfl, _⟩ := hc; rfl) | (obtain ⟨_, _, rfl, _⟩ := hc; rfl) | (obtain ⟨_, _, _, rfl, _⟩ := hc; rfl) | (obtain ⟨_, _, _, _, rfl, _⟩ := hc; rfl) | (obtain ⟨_, _, _, _, _, rfl, _⟩ := hc; rfl))
  case body =>
    rintro W ss R RE _ _ ⟨l, n, rfl, hl, hn, hR⟩
    repeat (wtm_at "d")
    refine ⟨rfl, _, .tup, rfl, rfl, _, rfl, fun _ => ?_, fun h => ff h.symm⟩
    repeat (wtm_at "d")
    refine evp_new (evf_map (wip_seq ?_))
    repeat (wtm_at "d")
    refine ⟨_, .tup _, (by rw [List.length_replicate]; omega), fun i => .bl true, fun i hi => gap_name (by decide) ?_, ?_⟩
    · rw [List.length_replicate] at hi
      rw [items_rep hi]
      repeat (wtm_at "d")
      refine ⟨rfl, _, .int, rfl, rfl, ?_⟩
      show Slot.dat (.bl (decide (0 ≤ l) && decide (l < 100))) = _
      rw [decide_eq_true hl.1, decide_eq_true hl.2]; rfl
    · repeat (wtm_at "d")
      refine cap_allR (f := fun _ => true) ?_
      have e : ((List.range (List.replicate n (DD.int l)).length).all fun _ => true) = true := by simp
      rw [e]
      repeat (wtm_at "d")
      exact hR
abbrev c_need_text : List Slot → (DD → Prop) → Prop := fun ss R => ∃ l n at', ss = [.dat (txt l n), .dat (.int at')] ∧ Lt l ∧ n ≤ 1000 ∧ R (txt l n)
theorem ok_need_text (T : Txt K mg A) : FDD P w K mg base CX0 6 A.need_text ["value", "at"] (spP c_need_text) := by
  obtain ⟨fd, F⟩ := T.F_need_text
  obtain ⟨k_is_text, fd_is_text, G_is_text, B_is_text⟩ := ok_is_text (P := P) (w := w) (base := base) T
  obtain ⟨ds, hv, B⟩ := F.binds1 (ps := ["value", "at"]) 1 0 (by simp) rfl (fun _ _ _ _ _ _ _ us its h1 h2 => match us, its, h1, h2 with | [_], [_], _, _ => ⟨_, rfl, rfl⟩)
  refine ⟨F.kp, fd, ds, ?_, B, hv⟩
  refine fn_sdD F sc_need_text ?len (by decide) fun cdv B outer s H E hr => ⟨_,
    (pss_cons (ps_if (pt_not (pt_val (pe_call G_is_text (hr.mono (by decide)) (by rfl) T.g_is_text k_is_text B_is_text .nil pass0 (pa_cons (pv 0) pa_nil))))
      (pss_one ps_never)
      pss_nil)
      (pss_one (ps_ret (pe_callTy (T := "tuple") (r := cTup K) call_cTup (by rfl) T.n_tuple (by decide +kernel) (pa_cons (pv 0) pa_nil)))))
    , ?body⟩
  case len => rintro ss R RE ⟨_, _, _, rfl, _⟩; rfl
  case body =>
    rintro W ss R RE _ _ ⟨l, n, at', rfl, hl, hn, hR⟩
    repeat (wtm_at "d")
    refine ⟨rfl, l, n, rfl, hl, hn, _, rfl, fun h => ff h, fun _ => ?_⟩
    repeat (wtm_at "d")
    refine cap_tuple (.tup _) ?_
    repeat (wtm_at "d")
    exact hR
abbrev c_need_versions : List Slot → (DD → Prop) → Prop := fun ss R => ∃ s l ns, ss = [s] ∧ LeS s (List.map (txt l) ns) ∧ Lt l ∧ (∀ n ∈ ns, n ≤ 1000) ∧ 1 ≤ ns.length ∧ ns.length ≤ 1000 ∧ R (.tup (List.map (txt l) ns))
theorem ok_need_versions (T : Txt K mg A) : FD P w K mg base CX0 6 A.need_versions ["value"] (spP c_need_versions) := by
  obtain ⟨fd, F⟩ := T.F_need_versions
  obtain ⟨k_is_sequence, fd_is_sequence, G_is_sequence, B_is_sequence⟩ := ok_is_sequence (P := P) (w := w) (base := base) T
  obtain ⟨k_is_text, fd_is_text, G_is_text, B_is_text⟩ := ok_is_text (P := P) (w := w) (base := base) T
  refine ⟨F.kp, fd, ?_, F.binds fun _ _ _ _ _ _ us hl => match us, hl with | [_], _ => rfl⟩
  refine fn_sd F sc_need_versions no_mut no_mut2 ?len (by decide) fun cdv B outer s H E hr => ⟨_,
    (pss_cons (ps_if (PW.pt (pw_or (pt_not (pt_val (pe_call G_is_sequence (hr.mono (by decide)) (by rfl) T.g_is_sequence k_is_sequence B_is_sequence .nil pass0 (pa_cons (pv 0) pa_nil)))) (pw_or1 (pt_cmpR (r := rEqD K) (op_eqD hr.units) (pe_callB (r := cLen K) call_cLen (by rfl) T.n_len (by decide +kernel) (pa_cons (pv 0) pa_nil)) pe_int (nomark _)))))
      (pss_one ps_never)
      pss_nil)
      (pss_cons (ps_for PassesOwn.never rfl (pi_enumU (by rfl) T.n_enumerate (pa_cons (pv 0) pa_nil)) (pg_tup rfl (pgs_cons (pg_name (i := 1) sc_need_versions.nd rfl (Or.inl rfl)) (pgs_cons (pg_name (i := 2) sc_need_versions.nd rfl (Or.inl rfl)) pgs_nil)))
      (pss_one (ps_if (pt_not (pt_val (pe_call G_is_text (hr.mono (by decide)) (by rfl) T.g_is_text k_is_text B_is_text .nil pass0 (pa_cons (pv 2) pa_nil))))
      (pss_one ps_never)
      pss_nil)))
      (pss_one (ps_ret (pe_callTy (T := "tuple") (r := cTup K) call_cTup (by rfl) T.n_tuple (by decide +kernel) (pa_cons (pe_lc (own := [("text", 2)]) (g := (gName 2)) (by rfl) sc_need_versions.nd (pi_seq (pv 0)) (blkOk_by (own := [("text", 2)]) (N := N_need_versions) (sc := defScope s_need_versions) (by decide +kernel)) (fun _ _ _ _ _ => (pg_name (i := 2) sc_need_versions.nd rfl (Or.inl rfl))) (fun _ _ _ _ _ => pts_nil) (fun _ _ _ _ _ => (pe_callTy (T := "tuple") (r := cTup K) call_cTup (by rfl) T.n_tuple (by decide +kernel) (pa_cons (pv 2) pa_nil)))) pa_nil)))))), ?body⟩
  case len => intro ss R RE hc; (first | (obtain ⟨_, rfl, _⟩ := hc; rfl) | (obtain ⟨_, _, rfl, _⟩ := hc; rfl) | (obtain ⟨_, _, _, rfl, _⟩ := hc; rfl) | (obtain ⟨_, _, _, _, rfl, _⟩ := hc; rfl) | (obtain ⟨_, _, _, _, _, rfl, _⟩ := hc; rfl))
  case body =>
    rintro W ss R RE _ _ ⟨s, l, ns, rfl, hs, hl, hns, h1, h2, hR⟩
    have hll : (List.map (txt l) ns).length = ns.length := by simp
    obtain ⟨ks, hks, hsq⟩ := kd_seq (le_seq hs)
    have hit : ∀ i, i < (List.map (txt l) ns).length → ∃ n, itemsOf (List.map (txt l) ns) i = txt l n ∧ n ≤ 1000 := fun i hi => by
      rw [hll] at hi
      exact ⟨ns[i], itemsOf_eq (by rw [List.getElem?_map, List.getElem?_eq_getElem hi]; rfl), hns _ (List.getElem_mem hi)⟩
    repeat (wtm_at "d")
    refine evp_arg rfl hks ?_
    repeat (wtm_at "d")
    refine ⟨ok1 hks, _, ks, rfl, kd_al hks, _, rfl, ⟨fun h => ?_, fun _ => ?_⟩⟩
    · rw [hsq] at h; cases h
    repeat (wtm_at "d")
    refine evp_seq rfl (le_seq hs) ?_
    repeat (wtm_at "d")
    refine cap_len (seqS_lend (le_seq hs)) ?_
    repeat (wtm_at "d")
    refine opp_eq (n := 0) (by decide) (nn _) (nn _) rfl rfl fun x hx => ?_
    have hx : x = false := (bl_of_iff hx).2 fun z => by
      have z : DD.int _ = DD.int _ := z
      have := DD.int.inj z
      omega
    subst hx
    repeat (wtm_at "d")
    refine ⟨fun h => ff h, fun _ => ?_⟩
    repeat (wtm_at "d")
    refine sd_for (vs := [1, 2]) (wfp_enum ?_)
    repeat (wtm_at "d")
    refine evp_seq rfl (le_seq hs) ?_
    repeat (wtm_at "d")
    refine ⟨_, _, rfl, le_lend hs, fun i ρ => ∃ u v, ρ = [s, u, v], ⟨_, _, rfl⟩, fun i ρ hi hI => ?_, fun ρ hI => ?_⟩
    · obtain ⟨u, v, rfl⟩ := hI
      obtain ⟨n, e, hn⟩ := hit i hi
      refine gap_tup rfl (gas_cons (gap_name (by decide) (gas_cons (gap_name (by decide) (gas_nil ?_)))))
      rw [e]
      repeat (wtm_at "d")
      refine ⟨rfl, l, n, rfl, hl, hn, _, rfl, fun h => ff h, fun _ => ?_⟩
      repeat (wtm_at "d")
      exact ⟨_, _, rfl⟩
    · obtain ⟨u, v, rfl⟩ := hI
      show SD W _ _ _
      repeat (wtm_at "d")
      refine evp_new (evf_map (wip_seq ?_))
      refine evp_seq rfl (le_seq hs) ?_
      refine ⟨_, seqS_lend (le_seq hs), by omega, fun i => itemsOf (List.map (txt l) ns) i, fun i hi => gap_name (by decide) ?_, ?_⟩
      · obtain ⟨n, e, hn⟩ := hit i hi
        rw [e]
        repeat (wtm_at "d")
        exact cap_tuple (.tup _) (congrArg Slot.dat e.symm)
      · repeat (wtm_at "d")
        refine cap_tuple (.lst _) ?_
        repeat (wtm_at "d")
        rw [items_all]
        exact hR
abbrev c_need_few_versions : List Slot → (DD → Prop) → Prop := fun ss R => ∃ s a b l ns, ss = [s, .dat (.int a), .dat (.int b)] ∧ LeS s (List.map (txt l) ns) ∧ Lt l ∧ (∀ n ∈ ns, n ≤ 1000) ∧ 1 ≤ ns.length ∧ ns.length ≤ 1000 ∧ a ≤ ns.length ∧ ns.length ≤ b ∧ R (.tup (List.map (txt l) ns))
theorem ok_need_few_versions (T : Txt K mg A) : FD P w K mg base CX0 7 A.need_few_versions ["value", "least", "most"] (spP c_need_few_versions) := by
  obtain ⟨fd, F⟩ := T.F_need_few_versions
  obtain ⟨k_is_sequence, fd_is_sequence, G_is_sequence, B_is_sequence⟩ := ok_is_sequence (P := P) (w := w) (base := base) T
  obtain ⟨k_need_versions, fd_need_versions, G_need_versions, B_need_versions⟩ := ok_need_versions (P := P) (w := w) (base := base) T
  refine ⟨F.kp, fd, ?_, F.binds fun _ _ _ _ _ _ us hl => match us, hl with | [_, _, _], _ => rfl⟩
  refine fn_sd F sc_need_few_versions no_mut no_mut2 ?len (by decide) fun cdv B outer s H E hr => ⟨_,
    (pss_cons (ps_if (PW.pt (pw_or (pt_not (pt_val (pe_call G_is_sequence (hr.mono (by decide)) (by rfl) T.g_is_sequence k_is_sequence B_is_sequence .nil pass0 (pa_cons (pv 0) pa_nil)))) (pw_or1 (pt_not (pt_chain op_leI op_leI (pv 1) (pe_callB (r := cLen K) call_cLen (by rfl) T.n_len (by decide +kernel) (pa_cons (pv 0) pa_nil)) (pv 2))))))
      (pss_one ps_never)
      pss_nil)
      (pss_one (ps_ret (pe_call G_need_versions (hr.mono (by decide)) (by rfl) T.g_need_versions k_need_versions B_need_versions .nil pass0 (pa_cons (pv 0) pa_nil))))), ?body⟩
  case len => intro ss R RE hc; (first | (obtain ⟨_, rfl, _⟩ := hc; rfl) | (obtain ⟨_, _, rfl, _⟩ := hc; rfl) | (obtain ⟨_, _, _, rfl, _⟩ := hc; rfl) | (obtain ⟨_, _, _, _, rfl, _⟩ := hc; rfl) | (obtain ⟨_, _, _, _, _, rfl, _⟩ := hc; rfl))
  case body =>
    rintro W ss R RE _ _ ⟨s, a, b, l, ns, rfl, hs, hl, hns, h1, h2, ha, hb, hR⟩
    have hll : (List.map (txt l) ns).length = ns.length := by simp
    obtain ⟨ks, hks, hsq⟩ := kd_seq (le_seq hs)
    repeat (wtm_at "d")
    refine evp_arg rfl hks ?_
    repeat (wtm_at "d")
    refine ⟨ok1 hks, _, ks, rfl, kd_al hks, _, rfl, ⟨fun h => ?_, fun _ => ?_⟩⟩
    · rw [hsq] at h; cases h
    repeat (wtm_at "d")
    refine evp_seq rfl (le_seq hs) ?_
    repeat (wtm_at "d")
    refine cap_len (seqS_lend (le_seq hs)) ?_
    rw [hll]
    repeat (wtm_at "d")
    rw [decide_eq_true ha]
    refine ⟨fun _ => ?_, fun h => ff h.symm⟩
    repeat (wtm_at "d")
    rw [decide_eq_true hb]
    refine ⟨fun h => ff h, fun _ => ?_⟩
    repeat (wtm_at "d")
    refine evp_seq rfl (le_seq hs) ?_
    repeat (wtm_at "d")
    refine ⟨ok1 hks, _, l, ns, rfl, le_arg (le_lend hs), hl, hns, h1, h2, _, rfl, hR⟩
end Dl

set_option Elab.async false
set_option linter.all false
set_option maxRecDepth 100000
set_option maxHeartbeats 1000000
namespace Dl
open PySem PySem.Spec PyProof.Rows L2
local macro_rules | `(tactic| wtm_at "d") => `(tactic| first
  | with_reducible refine sd_seq ?_ | with_reducible refine sd_if ?_ | with_reducible refine sd_ret ?_
  | with_reducible refine evp_op ?_ | with_reducible refine evp_un ?_ | with_reducible refine evp_cb ?_ | with_reducible refine evp_tupD ?_
  | with_reducible refine evp_andV ?_ | with_reducible refine evp_orV ?_ | with_reducible refine evp_notV ?_ | with_reducible refine evp_if ?_
  | with_reducible refine evt_test ?_ | with_reducible refine evt_B ?_ | with_reducible refine evt_and ?_ | with_reducible refine evt_or ?_ | with_reducible refine evt_not ?_
  | with_reducible refine eva_cons ?_ | with_reducible refine eva_nil ?_
  | with_reducible refine evp_int ?_ | with_reducible refine evp_str ?_ | with_reducible refine evp_bl ?_ | with_reducible refine evp_non ?_ | with_reducible refine evp_any ?_
  | (with_reducible refine evp_isv ?_; refine evp_dat rfl ?_)
  | with_reducible refine evp_callP ?_ | with_reducible refine evp_chain ?_
  | with_reducible refine sd_next ?_
  | with_reducible refine opp_add ?_ | with_reducible refine opp_sub ?_ | with_reducible refine opp_lt ?_ | with_reducible refine opp_le ?_ | with_reducible refine opp_gt ?_ | with_reducible refine opp_ge ?_
  | with_reducible refine opp_isN ?_ | with_reducible refine opp_notN ?_ | with_reducible refine unp_neg ?_
  | with_reducible refine ex_bl ?_ | with_reducible refine ex_dat ?_ | with_reducible refine ex_int ?_)
local macro_rules | `(tactic| wtm_at "e") => `(tactic| first | wtm_at "d" | with_reducible refine sd_set ?_)
variable {P : Program} {w : World} {K : PySem.W.Frag} {mg : Str → Option Value} {base : Heap} {A : Ads}
theorem items_mapg {α : Type} {f : α → DD} {l : List α} {i : Nat} {x : α} (h : l[i]? = some x) : itemsOf (l.map f) i = f x := itemsOf_eq (by rw [List.getElem?_map, h]; rfl)
theorem range_rep {β : Type} (n : Nat) (b : β) : (List.range n).map (fun _ => b) = List.replicate n b := by
  apply List.ext_getElem
  · simp
  · intro i h1 h2; simp
abbrev c_text_word : List Slot → (DD → Prop) → Prop := fun ss R => ∃ l n, ss = [.dat (txt l n)] ∧ Lt l ∧ n ≤ 1000 ∧ R (.tup (List.replicate n (ltr l 1)))
theorem ok_text_word (T : Txt K mg A) : FD P w K mg base CX0 7 A.text_word ["text"] (spP c_text_word) := by
  obtain ⟨fd, F⟩ := T.F_text_word
  obtain ⟨k_need_text, fd_need_text, ds_need_text, G_need_text, B_need_text, dflt_need_text⟩ := ok_need_text (P := P) (w := w) (base := base) T
  refine ⟨F.kp, fd, ?_, F.binds fun _ _ _ _ _ _ us hl => match us, hl with | [_], _ => rfl⟩
  refine fn_sd F sc_text_word no_mut no_mut2 ?len (by decide) fun cdv B outer s H E hr => ⟨_,
    (pss_one (ps_ret (pe_callTy (T := "tuple") (r := cTup K) call_cTup (by rfl) T.n_tuple (by decide +kernel) (pa_cons (pe_lc (own := [("letter", 1)]) (g := (gName 1)) (by rfl) sc_text_word.nd (pi_seq (pe_call G_need_text (hr.mono (by decide)) (by rfl) T.g_need_text k_need_text B_need_text dflt_need_text pass0 (pa_cons (pv 0) pa_nil))) (blkOk_by (own := [("letter", 1)]) (N := N_text_word) (sc := defScope s_text_word) (by decide +kernel)) (fun _ _ _ _ _ => (pg_name (i := 1) sc_text_word.nd rfl (Or.inl rfl))) (fun _ _ _ _ _ => pts_nil) (fun _ _ _ _ _ => (pe_tup (pa_cons (pv 1) (pa_cons pe_int pa_nil))))) pa_nil)))), ?body⟩
  case len => intro ss R RE hc; (first | (obtain ⟨_, rfl, _⟩ := hc; rfl) | (obtain ⟨_, _, rfl, _⟩ := hc; rfl) | (obtain ⟨_, _, _, rfl, _⟩ := hc; rfl) | (obtain ⟨_, _, _, _, rfl, _⟩ := hc; rfl) | (obtain ⟨_, _, _, _, _, rfl, _⟩ := hc; rfl))
  case body =>
    rintro W ss R RE _ _ ⟨l, n, rfl, hl, hn, hR⟩
    repeat (wtm_at "d")
    refine evp_new (evf_map (wip_seq ?_))
    refine evp_callD _ err0 ?_
    repeat (wtm_at "d")
    refine ⟨rfl, l, n, -1, rfl, hl, hn, _, .tup _, by rw [List.length_replicate]; omega, fun _ => ltr l 1, fun i hi => gap_name (by decide) ?_, ?_⟩
    · rw [List.length_replicate] at hi
      rw [items_rep hi]
      repeat (wtm_at "d")
      exact ⟨_, rfl, (show 2 ≤ 100000 by decide), rfl⟩
    · rw [List.length_replicate, range_rep]
      repeat (wtm_at "d")
      refine cap_tuple (.lst _) ?_
      repeat (wtm_at "d")
      exact hR
abbrev c_word_text : List Slot → (DD → Prop) → Prop := fun ss R => ∃ l n, ss = [.dat (.tup (List.replicate n (ltr l 1)))] ∧ Lt l ∧ n ≤ 1000 ∧ R (txt l n)
theorem stk_rep {l : Int} {n : Nat} : stk l (List.replicate n (1 : Int)).sum = List.replicate n (ltr l 1) := by
  have e : (List.replicate n (1 : Int)).sum = n := by
    induction n with
    | zero => rfl
    | succ n ih => rw [List.replicate_succ, List.sum_cons, ih]; omega
  rw [e]
  unfold stk sgn
  rw [if_neg (by omega)]
  congr
theorem ok_word_text (T : Txt K mg A) : FD P w K mg base CX0 7 A.word_text ["word"] (spP c_word_text) := by
  obtain ⟨fd, F⟩ := T.F_word_text
  obtain ⟨k_struck_row, fd_struck_row, G_struck_row, B_struck_row⟩ := ok_struck_row (P := P) (w := w) (base := base) T
  obtain ⟨k_need_word, fd_need_word, ds_need_word, G_need_word, B_need_word, dflt_need_word⟩ := ok_need_word (P := P) (w := w) (base := base) T
  refine ⟨F.kp, fd, ?_, F.binds fun _ _ _ _ _ _ us hl => match us, hl with | [_], _ => rfl⟩
  refine fn_sd F sc_word_text no_mut no_mut2 ?len (by decide) fun cdv B outer s H E hr => ⟨_,
    (pss_cons (ps_set (i := 1) sc_word_text.nd rfl (Or.inl rfl) (pe_call G_struck_row (hr.mono (by decide)) (by rfl) T.g_struck_row k_struck_row B_struck_row .nil pass0 (pa_cons (pe_call G_need_word (hr.mono (by decide)) (by rfl) T.g_need_word k_need_word B_need_word dflt_need_word pass0 (pa_cons (pv 0) pa_nil)) pa_nil)))
      (pss_cons (ps_if (pt_not (pt_val (pe_callB (r := rAll K) (cr_all rfl) (by rfl) T.n_all (by decide +kernel) (pa_cons (pe_lc (own := [("letter", 2), ("sign", 3)]) (g := (gTup K 2 (gCons (gName 2) (gCons (gName 3) gNil)))) (by rfl) sc_word_text.nd (pi_seq (pv 1)) (blkOk_by (own := [("letter", 2), ("sign", 3)]) (N := N_word_text) (sc := defScope s_word_text) (by decide +kernel)) (fun _ _ _ _ _ => (pg_tup rfl (pgs_cons (pg_name (i := 2) sc_word_text.nd rfl (Or.inl rfl)) (pgs_cons (pg_name (i := 3) sc_word_text.nd rfl (Or.inl rfl)) pgs_nil)))) (fun _ _ _ _ _ => pts_nil) (fun _ _ _ _ _ => (pe_cmpR (r := rEqD K) (op_eqD hr.units) (pv 3) pe_int (nomark _)))) pa_nil))))
      (pss_one (ps_ret pe_non))
      pss_nil)
      (pss_one (ps_ret (pe_callTy (T := "tuple") (r := cTup K) call_cTup (by rfl) T.n_tuple (by decide +kernel) (pa_cons (pe_lc (own := [("letter", 2), ("sign", 3)]) (g := (gTup K 2 (gCons (gName 2) (gCons (gName 3) gNil)))) (by rfl) sc_word_text.nd (pi_seq (pv 1)) (blkOk_by (own := [("letter", 2), ("sign", 3)]) (N := N_word_text) (sc := defScope s_word_text) (by decide +kernel)) (fun _ _ _ _ _ => (pg_tup rfl (pgs_cons (pg_name (i := 2) sc_word_text.nd rfl (Or.inl rfl)) (pgs_cons (pg_name (i := 3) sc_word_text.nd rfl (Or.inl rfl)) pgs_nil)))) (fun _ _ _ _ _ => pts_nil) (fun _ _ _ _ _ => (pv 2))) pa_nil)))))), ?body⟩
  case len => intro ss R RE hc; (first | (obtain ⟨_, rfl, _⟩ := hc; rfl) | (obtain ⟨_, _, rfl, _⟩ := hc; rfl) | (obtain ⟨_, _, _, rfl, _⟩ := hc; rfl) | (obtain ⟨_, _, _, _, rfl, _⟩ := hc; rfl) | (obtain ⟨_, _, _, _, _, rfl, _⟩ := hc; rfl))
  case body =>
    rintro W ss R RE _ _ ⟨l, n, rfl, hl, hn, hR⟩
    have e1 : List.replicate n (ltr l 1) = List.map (ltr l) (List.replicate n 1) := by rw [List.map_replicate]
    repeat (wtm_at "e")
    refine evp_callD _ err0 ?_
    repeat (wtm_at "d")
    refine ⟨rfl, _, -1, l, List.replicate n 1, rfl, ?_, hl, ?_, by rw [List.length_replicate]; omega, ?_⟩
    · show LeS (.dat (.tup (List.replicate n (ltr l 1)))) _
      rw [e1]; exact .tup _
    · intro x hx
      rw [List.mem_replicate] at hx
      exact .inl hx.2
    repeat (wtm_at "d")
    refine ⟨rfl, _, l, List.replicate n 1, rfl, .tup _, ?_, by rw [List.length_replicate]; omega, ?_⟩
    · intro x hx
      rw [List.mem_replicate] at hx
      exact .inl hx.2
    rw [stk_rep]
    repeat (wtm_at "d")
    refine evp_new (evf_map (wip_seq ?_))
    repeat (wtm_at "d")
    refine ⟨_, .tup _, by rw [List.length_replicate]; omega, fun _ => .bl true, fun i hi => ?_, ?_⟩
    · rw [List.length_replicate] at hi
      rw [items_rep hi]
      refine gap_tup rfl (gas_cons (gap_name (by decide) (gas_cons (gap_name (by decide) (gas_nil ?_)))))
      repeat (wtm_at "d")
      refine opp_eq (n := 0) (by decide) (nn _) (nn _) rfl rfl fun x hx => ?_
      have hx : x = true := hx.mpr rfl
      subst hx
      rfl
    · repeat (wtm_at "d")
      refine cap_allR (f := fun _ => true) ?_
      have e : ((List.range (List.replicate n (ltr l 1)).length).all fun _ => true) = true := by simp
      rw [e]
      repeat (wtm_at "d")
      refine ⟨fun h => ff h, fun _ => ?_⟩
      repeat (wtm_at "d")
      refine evp_new (evf_map (wip_seq ?_))
      repeat (wtm_at "d")
      refine ⟨_, .tup _, by rw [List.length_replicate]; omega, fun _ => .int l, fun i hi => ?_, ?_⟩
      · rw [List.length_replicate] at hi
        rw [items_rep hi]
        refine gap_tup rfl (gas_cons (gap_name (by decide) (gas_cons (gap_name (by decide) (gas_nil ?_)))))
        repeat (wtm_at "d")
        rfl
      · rw [List.length_replicate, range_rep]
        repeat (wtm_at "d")
        refine cap_tuple (.lst _) ?_
        repeat (wtm_at "d")
        exact hR
end Dl

set_option Elab.async false
set_option linter.all false
set_option maxRecDepth 100000
set_option maxHeartbeats 1000000
namespace Dl
open PySem PySem.Spec PyProof.Rows L2
local macro_rules | `(tactic| wtm_at "d") => `(tactic| first
  | with_reducible refine sd_seq ?_ | with_reducible refine sd_if ?_ | with_reducible refine sd_ret ?_
  | with_reducible refine evp_op ?_ | with_reducible refine evp_un ?_ | with_reducible refine evp_cb ?_ | with_reducible refine evp_tupD ?_
  | with_reducible refine evp_andV ?_ | with_reducible refine evp_orV ?_ | with_reducible refine evp_notV ?_ | with_reducible refine evp_if ?_
  | with_reducible refine evt_test ?_ | with_reducible refine evt_B ?_ | with_reducible refine evt_and ?_ | with_reducible refine evt_or ?_ | with_reducible refine evt_not ?_
  | with_reducible refine eva_cons ?_ | with_reducible refine eva_nil ?_
  | with_reducible refine evp_int ?_ | with_reducible refine evp_str ?_ | with_reducible refine evp_bl ?_ | with_reducible refine evp_non ?_ | with_reducible refine evp_any ?_
  | (with_reducible refine evp_isv ?_; refine evp_dat rfl ?_)
  | with_reducible refine evp_callP ?_ | with_reducible refine evp_chain ?_
  | with_reducible refine sd_next ?_
  | with_reducible refine opp_add ?_ | with_reducible refine opp_sub ?_ | with_reducible refine opp_lt ?_ | with_reducible refine opp_le ?_ | with_reducible refine opp_gt ?_ | with_reducible refine opp_ge ?_
  | with_reducible refine opp_isN ?_ | with_reducible refine opp_notN ?_ | with_reducible refine unp_neg ?_
  | with_reducible refine ex_bl ?_ | with_reducible refine ex_dat ?_ | with_reducible refine ex_int ?_)
local macro_rules | `(tactic| wtm_at "e") => `(tactic| first | wtm_at "d" | with_reducible refine sd_set ?_)
variable {P : Program} {w : World} {K : PySem.W.Frag} {mg : Str → Option Value} {base : Heap} {A : Ads}
def sgAt (cs : List Nat) : Nat → List Int
  | 0 => []
  | i + 1 => sgAt cs i ++ List.replicate (cs.getD i 0) (if i % 2 = 0 then 1 else -1)
theorem sgAt_sg {cs : List Nat} : ∀ {i : Nat} {x : Int}, x ∈ sgAt cs i → Sg x
  | i + 1, x, h => by
    unfold sgAt at h
    rcases List.mem_append.mp h with h | h
    · exact sgAt_sg h
    · rw [List.mem_replicate] at h
      rw [h.2]
      by_cases e : i % 2 = 0
      · rw [if_pos e]; exact .inl rfl
      · rw [if_neg e]; exact .inr rfl
theorem sum_rep (n : Nat) (a : Int) : (List.replicate n a).sum = n * a := by
  induction n with
  | zero => simp
  | succ n ih =>
    rw [List.replicate_succ, List.sum_cons, ih]
    push_cast
    rw [Int.add_mul]; omega
abbrev c_rows_word : List Slot → (DD → Prop) → Prop := fun ss R => ∃ s l ns, ∃ a b c x y z : Nat, ss = [s, .dat (.tup [.int (a : Int), .int (b : Int), .int (c : Int)])] ∧ SeqS s (List.map (txt l) ns) ∧ Lt l ∧
  ns[a]? = some x ∧ ns[b]? = some y ∧ ns[c]? = some z ∧ x ≤ 300 ∧ y ≤ 300 ∧ z ≤ 300 ∧ y ≤ x + z ∧ R (.tup (List.replicate (x + z - y) (ltr l 1)))
theorem ok_rows_word (T : Txt K mg A) : FD P w K mg base CX0 8 A.rows_word ["texts", "row"] (spP c_rows_word) := by
  obtain ⟨fd, F⟩ := T.F_rows_word
  obtain ⟨k_text_word, fd_text_word, G_text_word, B_text_word⟩ := ok_text_word (P := P) (w := w) (base := base) T
  obtain ⟨k_turned, fd_turned, G_turned, B_turned⟩ := ok_turned (P := P) (w := w) (base := base) T
  obtain ⟨k_struck_row, fd_struck_row, G_struck_row, B_struck_row⟩ := ok_struck_row (P := P) (w := w) (base := base) T
  refine ⟨F.kp, fd, ?_, F.binds fun _ _ _ _ _ _ us hl => match us, hl with | [_, _], _ => rfl⟩
  refine fn_sd F sc_rows_word no_mut no_mut2 ?len (by decide) fun cdv B outer s H E hr => ⟨_,
    (pss_cons (ps_set (i := 2) sc_rows_word.nd rfl (Or.inl rfl) (pe_lst pa_nil))
      (pss_cons (ps_for PassesOwn.never rfl (pi_enumU (by rfl) T.n_enumerate (pa_cons (pv 1) pa_nil)) (pg_tup rfl (pgs_cons (pg_name (i := 3) sc_rows_word.nd rfl (Or.inl rfl)) (pgs_cons (pg_name (i := 4) sc_rows_word.nd rfl (Or.inl rfl)) pgs_nil)))
      (pss_cons (ps_set (i := 5) sc_rows_word.nd rfl (Or.inl rfl) (pe_callTy (T := "list") (r := cLst K) call_cLst (by rfl) T.n_list (by decide +kernel) (pa_cons (pe_call G_text_word (hr.mono (by decide)) (by rfl) T.g_text_word k_text_word B_text_word .nil pass0 (pa_cons (pe_ix (r := rIx K) ix_seq (pv 0) (pv 4) (fun _ _ => rfl)) pa_nil)) pa_nil)))
      (pss_one (ps_expr (pe_bm PySem.F.plainAttrs_list PySem.F.slot_list_extend PySem.F.type_list_extend mt_extend (pv 2) (pa_cons (pe_ifExp (pt_cmpR (r := rEqD K) (op_eqD hr.units) (pe_op op_modI (pv 3) pe_int) pe_int (nomark _)) (pv 5) (pe_lc (own := [("letter", 6)]) (g := (gName 6)) (by rfl) sc_rows_word.nd (pi_seq (pe_revL (pv 5))) (blkOk_by (own := [("letter", 6)]) (N := N_rows_word) (sc := defScope s_rows_word) (by decide +kernel)) (fun _ _ _ _ _ => (pg_name (i := 6) sc_rows_word.nd rfl (Or.inl rfl))) (fun _ _ _ _ _ => pts_nil) (fun _ _ _ _ _ => (pe_call G_turned (hr.mono (by decide)) (by rfl) T.g_turned k_turned B_turned .nil pass0 (pa_cons (pv 6) pa_nil))))) pa_nil))))))
      (pss_one (ps_ret (pe_call G_struck_row (hr.mono (by decide)) (by rfl) T.g_struck_row k_struck_row B_struck_row .nil pass0 (pa_cons (pv 2) pa_nil)))))), ?body⟩
  case len => intro ss R RE hc; (first | (obtain ⟨_, rfl, _⟩ := hc; rfl) | (obtain ⟨_, _, rfl, _⟩ := hc; rfl) | (obtain ⟨_, _, _, rfl, _⟩ := hc; rfl) | (obtain ⟨_, _, _, _, rfl, _⟩ := hc; rfl) | (obtain ⟨_, _, _, _, _, rfl, _⟩ := hc; rfl) | (obtain ⟨_, _, _, _, _, _, rfl, _⟩ := hc; rfl) | (obtain ⟨_, _, _, _, _, _, _, rfl, _⟩ := hc; rfl) | (obtain ⟨_, _, _, _, _, _, _, _, rfl, _⟩ := hc; rfl) | (obtain ⟨_, _, _, _, _, _, _, _, _, rfl, _⟩ := hc; rfl) | (obtain ⟨_, _, _, _, _, _, _, _, _, _, rfl, _⟩ := hc; rfl) | (obtain ⟨_, _, _, _, _, _, _, _, _, _, _, rfl, _⟩ := hc; rfl))
  case body =>
    rintro W ss R RE _ _ ⟨s, l, ns, a, b, c, x, y, z, rfl, hs, hl, ha, hb, hc, hx, hy, hz, hyz, hR⟩
    have hit : ∀ i, i < 3 → ∃ nm m : Nat, itemsOf [.int (a : Int), .int (b : Int), .int (c : Int)] i = .int (nm : Int) ∧ ns[nm]? = some m ∧ [x, y, z].getD i 0 = m ∧ m ≤ 300 := fun i hi => by
      match i, hi with
      | 0, _ => exact ⟨a, x, rfl, ha, rfl, hx⟩
      | 1, _ => exact ⟨b, y, rfl, hb, rfl, hy⟩
      | 2, _ => exact ⟨c, z, rfl, hc, rfl, hz⟩
      | n + 3, h => exact absurd h (by omega)
    have hsl : ∀ i, i ≤ 3 → (sgAt [x, y, z] i).length ≤ 300 * i := fun i hi => by
      induction i with
      | zero => simp [sgAt]
      | succ i ih =>
        obtain ⟨_, m, _, _, e, hm⟩ := hit i (by omega)
        have := ih (by omega)
        unfold sgAt
        rw [List.length_append, List.length_replicate, e]
        omega
    repeat (wtm_at "d")
    refine sd_own (evf_lstD ?_)
    repeat (wtm_at "d")
    refine ⟨_, rfl, by decide, ?_⟩
    repeat (wtm_at "d")
    refine sd_for (vs := [3, 4]) (wfp_enum ?_)
    repeat (wtm_at "d")
    refine ⟨_, _, rfl, .tup _, fun i ρ => ∃ u v w t, ρ = [s, .dat (.tup [.int (a : Int), .int (b : Int), .int (c : Int)]), .seq .own (List.map (ltr l) (sgAt [x, y, z] i)), u, v, w, t], ⟨_, _, _, _, rfl⟩, fun i ρ hi hI => ?_, fun ρ hI => ?_⟩
    · obtain ⟨u, v, w, t, rfl⟩ := hI
      have hi : i < 3 := hi
      obtain ⟨nm, m, e1, e2, e3, hm⟩ := hit i hi
      have hlen := hsl i (by omega)
      refine gap_tup rfl (gas_cons (gap_name (by decide) (gas_cons (gap_name (by decide) (gas_nil ?_)))))
      rw [e1]
      repeat (wtm_at "d")
      refine sd_own (evf_cb ?_)
      repeat (wtm_at "d")
      refine evp_seq rfl hs ?_
      repeat (wtm_at "d")
      refine opp_ixn (seqS_lend hs) (by rw [List.getElem?_map, e2]; rfl) ?_
      repeat (wtm_at "d")
      refine ⟨rfl, l, m, rfl, hl, by omega, ?_⟩
      repeat (wtm_at "d")
      refine caf_list (.tup _) ?_
      repeat (wtm_at "d")
      refine sd_extS (ds := List.map (ltr l) (sgAt [x, y, z] i)) rfl ?_
      have fin : ∀ sg : Int, (if i % 2 = 0 then 1 else -1) = sg → List.map (ltr l) (sgAt [x, y, z] i) ++ List.replicate m (ltr l sg) = List.map (ltr l) (sgAt [x, y, z] (i + 1)) := fun sg e => by
        show _ = List.map (ltr l) (sgAt [x, y, z] i ++ List.replicate ([x, y, z].getD i 0) (if i % 2 = 0 then 1 else -1))
        rw [List.map_append, List.map_replicate, e3, e]
      repeat (wtm_at "d")
      refine opp_mod (by decide) ?_
      repeat (wtm_at "d")
      refine opp_eq (n := 0) (by decide) (nn _) (nn _) rfl rfl fun q hq => ?_
      repeat (wtm_at "d")
      have hq : q = true ↔ i % 2 = 0 := hq.trans ⟨fun z => by have := DD.int.inj z; omega, fun z => by show DD.int _ = .int 0; congr; omega⟩
      refine ⟨fun h => ?_, fun h => ?_⟩
      · refine evp_var (s := .seq .own (List.replicate m (ltr l 1))) rfl (fun h => nomatch h) ?_
        refine ⟨_, .seq _ _, by rw [List.length_map, List.length_replicate]; omega, ?_⟩
        rw [fin 1 (if_pos (hq.mp h))]
        exact ⟨_, _, _, _, rfl⟩
      · refine evp_new (evf_map (wip_seq ?_))
        refine evp_new (evf_rev ?_)
        refine evp_var (s := .seq .own (List.replicate m (ltr l 1))) rfl (fun h => nomatch h) ?_
        refine ⟨_, .seq _ _, ?_⟩
        rw [List.reverse_replicate]
        refine ⟨_, .lst _, by rw [List.length_replicate]; omega, fun _ => ltr l (-1), fun j hj => gap_name (by decide) ?_, ?_⟩
        · rw [List.length_replicate] at hj
          rw [items_rep hj]
          repeat (wtm_at "d")
          exact ⟨rfl, l, 1, rfl, rfl⟩
        · rw [List.length_replicate, range_rep]
          refine ⟨_, .lst _, by rw [List.length_map, List.length_replicate]; omega, ?_⟩
          rw [fin (-1) (if_neg (fun z => by rw [hq.mpr z] at h; cases h))]
          exact ⟨_, _, _, _, rfl⟩
    · obtain ⟨u, v, w, t, rfl⟩ := hI
      show SD W _ _ _
      repeat (wtm_at "d")
      refine evp_var (s := .seq .own (List.map (ltr l) (sgAt [x, y, z] 3))) rfl (fun h => nomatch h) ?_
      repeat (wtm_at "d")
      refine ⟨rfl, _, l, sgAt [x, y, z] 3, rfl, .seq _, fun x hx => sgAt_sg hx, by have := hsl 3 (by omega); omega, _, rfl, ?_⟩
      have e : (sgAt [x, y, z] 3).sum = ((x + z - y : Nat) : Int) := by
        show ((([] ++ List.replicate x (1 : Int)) ++ List.replicate y (-1 : Int)) ++ List.replicate z (1 : Int)).sum = _
        rw [List.nil_append, List.sum_append, List.sum_append, sum_rep, sum_rep, sum_rep]
        omega
      rw [e]
      have e2 : stk l ((x + z - y : Nat) : Int) = List.replicate (x + z - y) (ltr l 1) := by
        unfold stk sgn
        rw [if_neg (by omega)]
        congr
      rw [e2]
      exact hR
end Dl

set_option Elab.async false
set_option linter.all false
set_option maxRecDepth 100000
set_option maxHeartbeats 1000000
namespace Dl
open PySem PySem.Spec PyProof.Rows L2
local macro_rules | `(tactic| wtm_at "d") => `(tactic| first
  | with_reducible refine sd_seq ?_ | with_reducible refine sd_if ?_ | with_reducible refine sd_ret ?_
  | with_reducible refine evp_op ?_ | with_reducible refine evp_un ?_ | with_reducible refine evp_cb ?_ | with_reducible refine evp_tupD ?_
  | with_reducible refine evp_andV ?_ | with_reducible refine evp_orV ?_ | with_reducible refine evp_notV ?_ | with_reducible refine evp_if ?_
  | with_reducible refine evt_test ?_ | with_reducible refine evt_B ?_ | with_reducible refine evt_and ?_ | with_reducible refine evt_or ?_ | with_reducible refine evt_not ?_
  | with_reducible refine eva_cons ?_ | with_reducible refine eva_nil ?_
  | with_reducible refine evp_int ?_ | with_reducible refine evp_str ?_ | with_reducible refine evp_bl ?_ | with_reducible refine evp_non ?_ | with_reducible refine evp_any ?_
  | (with_reducible refine evp_isv ?_; refine evp_dat rfl ?_)
  | with_reducible refine evp_callP ?_ | with_reducible refine evp_chain ?_
  | with_reducible refine sd_next ?_
  | with_reducible refine opp_add ?_ | with_reducible refine opp_sub ?_ | with_reducible refine opp_lt ?_ | with_reducible refine opp_le ?_ | with_reducible refine opp_gt ?_ | with_reducible refine opp_ge ?_
  | with_reducible refine opp_isN ?_ | with_reducible refine opp_notN ?_ | with_reducible refine unp_neg ?_
  | with_reducible refine ex_bl ?_ | with_reducible refine ex_dat ?_ | with_reducible refine ex_int ?_)
local macro_rules | `(tactic| wtm_at "e") => `(tactic| first | wtm_at "d" | with_reducible refine sd_set ?_)
variable {P : Program} {w : World} {K : PySem.W.Frag} {mg : Str → Option Value} {base : Heap} {A : Ads}
theorem evp_call0 {W : Wd} {ρ : List Slot} {P : Slot → Prop} {C : List Slot → (DD → Prop) → ErrP → Prop} {E : XK} {t : TA} (h : EvA W t ρ fun ss => okArgs ss = true ∧ C (ss.map toArg) (fun d => P (.dat d)) (fun _ _ _ => False)) : EvP W (tCall (spE NoM AnyJ C) [] E t) ρ P :=
  evp_call _ (fun _ _ _ _ _ _ _ _ _ _ z => z.elim) h
theorem mv_ne : ¬ slotPy (.dat (.str ("merge" : Str))) = slotPy (.dat (.str ("version" : Str))) := fun z => absurd (DD.str.inj z) (by decide +kernel)
theorem vm_ne : ¬ slotPy (.dat (.str ("version" : Str))) = slotPy (.dat (.str ("merge" : Str))) := fun z => absurd (DD.str.inj z) (by decide +kernel)
/-- a plan's step that is told well -/
inductive Pl where
  | v (n : Nat) | m (b m y : Nat)
  deriving DecidableEq
instance : Inhabited Pl := ⟨.v 0⟩
def Pl.stp : Pl → Stp
  | .v n => .ver (.int (n : Int))
  | .m b c y => .mrg (.int (b : Int)) (.int (c : Int)) (.int (y : Int))
def Pl.dd (p : Pl) : DD := .tup p.stp.ds
theorem Pl.kn (p : Pl) : p.stp.Kn := by
  cases p with
  | v n => exact fun z => nomatch z
  | m b c y => exact ⟨(fun z => nomatch z), (fun z => nomatch z), (fun z => nomatch z)⟩
theorem stpAll_pl (pl : List Pl) : StpAll (pl.map Pl.dd) (pl.map Pl.stp) := ⟨by simp, fun i st h => by
  rw [List.getElem?_map] at h
  cases e : pl[i]? with
  | none => rw [e] at h; cases h
  | some p =>
    rw [e] at h
    cases h
    exact ⟨.inr (items_mapg e), p.kn⟩⟩
theorem badAt_none {M : Int} : ∀ {sts : List Stp} {n : Nat}, badAt M n sts = none → ∀ i st, sts[i]? = some st → okStp M ((n + i : Nat) : Int) st = true
  | [], n, _, i, st, h => by simp at h
  | s :: r, n, hb, i, st, h => by
    unfold badAt at hb
    by_cases e : okStp M (n : Int) s = true
    · rw [if_pos e] at hb
      cases i with
      | zero => simp at h; subst h; exact e
      | succ i =>
        have := badAt_none hb i st (by simpa using h)
        rw [show n + 1 + i = n + (i + 1) by omega] at this
        exact this
    · rw [if_neg e] at hb; cases hb
/-- the lengths of one letter texts that a plan brings -/
def LenOk (ns : List Nat) (pl : List Pl) (ls : List Nat) : Prop := ls.length = pl.length ∧ (∀ x ∈ ls, x ≤ 300) ∧ ∀ (i : Nat) (p : Pl), pl[i]? = some p → ∃ x, ls[i]? = some x ∧ match p with
  | .v n => ns[n]? = some x
  | .m b m y => b < i ∧ m < i ∧ y < i ∧ ∃ xb xm xy : Nat, ls[b]? = some xb ∧ ls[m]? = some xm ∧ ls[y]? = some xy ∧ xb + x = xm + xy
abbrev c_plan_texts : List Slot → (DD → Prop) → Prop := fun ss R => ∃ s t l ns pl es ls, ss = [s, t] ∧ LeS s (List.map (txt l) ns) ∧ Lt l ∧ (∀ n ∈ ns, n ≤ 300) ∧ 1 ≤ ns.length ∧ ns.length ≤ 12 ∧ LeS t es ∧ StpAll es (List.map Pl.stp pl) ∧
  1 ≤ pl.length ∧ pl.length ≤ 20 ∧ badAt (ns.length : Int) 0 (pl.map Pl.stp) = none ∧ LenOk ns pl ls ∧ R (.tup (ls.map (txt l)))
theorem ok_plan_texts (T : Txe P K mg A) : FD P w K mg base CX0 9 A.plan_texts ["texts", "plan"] (spP c_plan_texts) := by
  obtain ⟨fd, F⟩ := T.F_plan_texts
  obtain ⟨k_need_few_versions, fd_need_few_versions, G_need_few_versions, B_need_few_versions⟩ := ok_need_few_versions (P := P) (w := w) (base := base) T.toTxt
  obtain ⟨k_need_plan, fd_need_plan, G_need_plan, B_need_plan⟩ := ok_need_plan (P := P) (w := w) (base := base) T
  obtain ⟨k_word_text, fd_word_text, G_word_text, B_word_text⟩ := ok_word_text (P := P) (w := w) (base := base) T.toTxt
  obtain ⟨k_rows_word, fd_rows_word, G_rows_word, B_rows_word⟩ := ok_rows_word (P := P) (w := w) (base := base) T.toTxt
  refine ⟨F.kp, fd, ?_, F.binds fun _ _ _ _ _ _ us hl => match us, hl with | [_, _], _ => rfl⟩
  refine fn_sd F sc_plan_texts no_mut no_mut2 ?len (by decide) fun cdv B outer s H E hr => ⟨_,
    (pss_cons (ps_set (i := 0) sc_plan_texts.nd rfl (Or.inl rfl) (pe_call G_need_few_versions (hr.mono (by decide)) (by rfl) T.g_need_few_versions k_need_few_versions B_need_few_versions .nil pass0 (pa_cons (pv 0) (pa_cons pe_int (pa_cons (pe_const (by rfl) T.c_MOST_VERSIONS) pa_nil)))))
      (pss_cons (ps_set (i := 2) sc_plan_texts.nd rfl (Or.inl rfl) (pe_lst pa_nil))
      (pss_cons (ps_for PassesOwn.never rfl (pi_enumU (by rfl) T.n_enumerate (pa_cons (pe_call G_need_plan (hr.mono (by decide)) (by rfl) T.g_need_plan k_need_plan B_need_plan .nil passL (pa_cons (pe_callB (r := cLen K) call_cLen (by rfl) T.n_len (by decide +kernel) (pa_cons (pv 0) pa_nil)) (pa_cons (pv 1) pa_nil))) pa_nil)) (pg_tup rfl (pgs_cons (pg_name (i := 3) sc_plan_texts.nd rfl (Or.inl rfl)) (pgs_cons (pg_name (i := 4) sc_plan_texts.nd rfl (Or.inl rfl)) pgs_nil)))
      (pss_one (ps_if (pt_cmpR (r := rEqD K) (op_eqD hr.units) (pe_ix (r := rIx K) ix_seq (pv 4) pe_int (fun _ _ => rfl)) pe_str (nomark _))
      (pss_one (ps_expr (pe_bm PySem.F.plainAttrs_list PySem.F.slot_list_append PySem.F.type_list_append mt_append (pv 2) (pa_cons (pe_ix (r := rIx K) ix_seq (pv 0) (pe_ix (r := rIx K) ix_seq (pv 4) pe_int (fun _ _ => rfl)) (fun _ _ => rfl)) pa_nil))))
      (pss_cons (ps_set (i := 5) sc_plan_texts.nd rfl (Or.inl rfl) (pe_call G_word_text (hr.mono (by decide)) (by rfl) T.g_word_text k_word_text B_word_text .nil pass0 (pa_cons (pe_call G_rows_word (hr.mono (by decide)) (by rfl) T.g_rows_word k_rows_word B_rows_word .nil pass0 (pa_cons (pv 2) (pa_cons (pe_tup (pa_cons (pe_ix (r := rIx K) ix_seq (pv 4) pe_int (fun _ _ => rfl)) (pa_cons (pe_ix (r := rIx K) ix_seq (pv 4) pe_int (fun _ _ => rfl)) (pa_cons (pe_ix (r := rIx K) ix_seq (pv 4) pe_int (fun _ _ => rfl)) pa_nil)))) pa_nil))) pa_nil)))
      (pss_cons (ps_if (pt_cmpR op_isN1 (pv 5) pe_non (nomark _))
      (pss_one ps_never)
      pss_nil)
      (pss_one (ps_expr (pe_bm PySem.F.plainAttrs_list PySem.F.slot_list_append PySem.F.type_list_append mt_append (pv 2) (pa_cons (pv 5) pa_nil)))))))))
      (pss_one (ps_ret (pe_callTy (T := "tuple") (r := cTup K) call_cTup (by rfl) T.n_tuple (by decide +kernel) (pa_cons (pv 2) pa_nil))))))), ?body⟩
  case len => intro ss R RE hc; (first | (obtain ⟨_, rfl, _⟩ := hc; rfl) | (obtain ⟨_, _, rfl, _⟩ := hc; rfl) | (obtain ⟨_, _, _, rfl, _⟩ := hc; rfl) | (obtain ⟨_, _, _, _, rfl, _⟩ := hc; rfl) | (obtain ⟨_, _, _, _, _, rfl, _⟩ := hc; rfl) | (obtain ⟨_, _, _, _, _, _, rfl, _⟩ := hc; rfl) | (obtain ⟨_, _, _, _, _, _, _, rfl, _⟩ := hc; rfl) | (obtain ⟨_, _, _, _, _, _, _, _, rfl, _⟩ := hc; rfl) | (obtain ⟨_, _, _, _, _, _, _, _, _, rfl, _⟩ := hc; rfl) | (obtain ⟨_, _, _, _, _, _, _, _, _, _, rfl, _⟩ := hc; rfl) | (obtain ⟨_, _, _, _, _, _, _, _, _, _, _, rfl, _⟩ := hc; rfl))
  case body =>
    rintro W ss R RE _ _ ⟨s, t, l, ns, pl, es, ls, rfl, hs, hl, hns, h1, h2, ht, ha, hp1, hp2, hbad, ⟨hlen, hls, hok⟩, hR⟩
    obtain ⟨ks, hks, _⟩ := kd_seq (le_seq hs)
    obtain ⟨kt, hkt, _⟩ := kd_seq (le_seq ht)
    have hml : (List.map (txt l) ns).length = ns.length := by simp
    have hpl : (List.map Pl.stp pl).length = pl.length := by simp
    repeat (wtm_at "e")
    refine evp_seq rfl (le_seq hs) ?_
    repeat (wtm_at "d")
    refine ⟨by have := ok1 hks; simpa [okArgs] using this, _, 1, 12, l, ns, rfl, le_arg (le_lend hs), hl, fun n hn => Nat.le_trans (hns n hn) (by decide), h1, by omega, by omega, by omega, ?_⟩
    repeat (wtm_at "d")
    refine sd_own (evf_lstD ?_)
    repeat (wtm_at "d")
    refine ⟨_, rfl, by decide, ?_⟩
    repeat (wtm_at "d")
    refine sd_for (vs := [3, 4]) (wfp_enum ?_)
    repeat (wtm_at "d")
    refine evp_call0 ?_
    repeat (wtm_at "d")
    refine cap_len (.tup _) ?_
    rw [hml]
    repeat (wtm_at "d")
    refine evp_seq rfl (le_seq ht) ?_
    repeat (wtm_at "d")
    refine ⟨by have := ok1 hkt; simpa [okArgs] using this, _, _, .int, es, List.map Pl.stp pl, rfl, rfl, le_arg (le_lend ht), ha, by omega, by omega, fun h => ?_, fun M hM _ => ⟨fun _ => ?_, fun at' h => ?_⟩⟩
    · exfalso
      have h : (decide (1 ≤ (ns.length : Int)) && decide ((ns.length : Int) ≤ 12)) = false := h
      rw [decide_eq_true (by omega), decide_eq_true (by omega)] at h; cases h
    · have hM := DD.int.inj hM
      repeat (wtm_at "d")
      refine ⟨_, _, rfl, .tup _, fun i ρ => ∃ u v w, ρ = [.dat (.tup (List.map (txt l) ns)), t, .seq .own ((ls.take i).map (txt l)), u, v, w], ⟨_, _, _, rfl⟩, fun i ρ hi hI => ?_, fun ρ hI => ?_⟩
      · obtain ⟨u, v, w, rfl⟩ := hI
        have hi : i < pl.length := by simpa using hi
        have hpi : pl[i]? = some pl[i] := List.getElem?_eq_getElem hi
        have hit : itemsOf (List.map (fun st => DD.tup st.ds) (List.map Pl.stp pl)) i = pl[i].dd := by
          rw [List.map_map]; exact items_mapg hpi
        obtain ⟨x, hx, hcase⟩ := hok i _ hpi
        have fin : (ls.take i).map (txt l) ++ [txt l x] = (ls.take (i + 1)).map (txt l) := by
          rw [List.take_add_one, hx, List.map_append]; rfl
        have hll : ((ls.take i).map (txt l)).length < 100000 := by rw [List.length_map, List.length_take]; omega
        refine gap_tup rfl (gas_cons (gap_name (by decide) (gas_cons (gap_name (by decide) (gas_nil ?_)))))
        rw [hit]
        generalize pl[i] = p at hcase
        cases p with
        | v n =>
          have hcase : ns[n]? = some x := hcase
          repeat (wtm_at "d")
          refine opp_ix (i := 0) (.tup _) rfl ?_
          repeat (wtm_at "d")
          refine opp_eq (n := 0) (by decide) (nn _) (nn _) (by decide +kernel) (by decide +kernel) fun q hq => ?_
          have hq : q = true := hq.mpr rfl
          subst hq
          refine ⟨_, rfl, fun _ => ?_, fun h => Bool.noConfusion h⟩
          refine sd_app rfl hll ?_
          repeat (wtm_at "d")
          refine opp_ix (i := 1) (.tup _) rfl ?_
          refine opp_ixn (.tup _) (by rw [List.getElem?_map, hcase]; rfl) ?_
          repeat (wtm_at "d")
          rw [fin]
          exact ⟨_, _, _, rfl⟩
        | m b m y =>
          obtain ⟨hb, hm, hy, xb, xm, xy, eb, em, ey, esum⟩ := hcase
          repeat (wtm_at "d")
          refine opp_ix (i := 0) (.tup _) rfl ?_
          repeat (wtm_at "d")
          refine opp_eq (n := 0) (by decide) (nn _) (nn _) (by decide +kernel) (by decide +kernel) fun q hq => ?_
          have hq : q = false := (bl_of_iff hq).2 mv_ne
          subst hq
          refine ⟨_, rfl, fun h => Bool.noConfusion h, fun _ => ?_⟩
          repeat (wtm_at "e")
          refine evp_var (s := .seq .own ((ls.take i).map (txt l))) rfl (fun h => nomatch h) ?_
          repeat (wtm_at "d")
          refine opp_ix (i := 2) (.tup _) rfl ?_
          repeat (wtm_at "d")
          refine opp_ix (i := 1) (.tup _) rfl ?_
          repeat (wtm_at "d")
          refine opp_ix (i := 3) (.tup _) rfl ?_
          repeat (wtm_at "d")
          refine ⟨_, rfl, (show 3 ≤ 100000 by decide), ?_⟩
          repeat (wtm_at "d")
          have hle : ∀ {k xk : Nat}, ls[k]? = some xk → xk ≤ 300 := fun h => hls _ (List.mem_of_getElem? h)
          have tk : ∀ {k xk : Nat}, k < i → ls[k]? = some xk → (ls.take i)[k]? = some xk := fun hk h => by rw [List.getElem?_take_of_lt hk]; exact h
          refine ⟨rfl, _, l, ls.take i, m, b, y, xm, xb, xy, rfl, .seq _ _, hl, tk hm em, tk hb eb, tk hy ey, hle em, hle eb, hle ey, by omega, ?_⟩
          have : xm + xy - xb = x := by omega
          rw [this]
          repeat (wtm_at "d")
          refine ⟨rfl, l, x, rfl, hl, by have := hle hx; omega, ?_⟩
          repeat (wtm_at "d")
          refine ⟨fun h => ff h, fun _ => ?_⟩
          repeat (wtm_at "d")
          refine sd_app rfl hll ?_
          repeat (wtm_at "d")
          rw [fin]
          exact ⟨_, _, _, rfl⟩
      · obtain ⟨u, v, w, rfl⟩ := hI
        show SD W _ _ _
        have e : (List.map (fun st => DD.tup st.ds) (List.map Pl.stp pl)).length = ls.length := by simp [hlen]
        rw [e, List.take_length]
        repeat (wtm_at "d")
        refine evp_var (s := .seq .own (ls.map (txt l))) rfl (fun h => nomatch h) ?_
        repeat (wtm_at "d")
        refine cap_tuple (.seq _ _) ?_
        repeat (wtm_at "d")
        exact hR
    · have hM := DD.int.inj hM
      rw [← hM, hbad] at h; cases h
end Dl

set_option Elab.async false
set_option linter.all false
set_option maxRecDepth 100000
set_option maxHeartbeats 1000000
namespace Dl
open PySem PySem.Spec PyProof.Rows L2
local macro_rules | `(tactic| wtm_at "d") => `(tactic| first
  | with_reducible refine sd_seq ?_ | with_reducible refine sd_if ?_ | with_reducible refine sd_ret ?_
  | with_reducible refine evp_op ?_ | with_reducible refine evp_un ?_ | with_reducible refine evp_cb ?_ | with_reducible refine evp_tupD ?_
  | with_reducible refine evp_andV ?_ | with_reducible refine evp_orV ?_ | with_reducible refine evp_notV ?_ | with_reducible refine evp_if ?_
  | with_reducible refine evt_test ?_ | with_reducible refine evt_B ?_ | with_reducible refine evt_and ?_ | with_reducible refine evt_or ?_ | with_reducible refine evt_not ?_
  | with_reducible refine eva_cons ?_ | with_reducible refine eva_nil ?_
  | with_reducible refine evp_int ?_ | with_reducible refine evp_str ?_ | with_reducible refine evp_bl ?_ | with_reducible refine evp_non ?_ | with_reducible refine evp_any ?_
  | (with_reducible refine evp_isv ?_; refine evp_dat rfl ?_)
  | with_reducible refine evp_callP ?_ | with_reducible refine evp_chain ?_
  | with_reducible refine sd_next ?_
  | with_reducible refine opp_add ?_ | with_reducible refine opp_sub ?_ | with_reducible refine opp_lt ?_ | with_reducible refine opp_le ?_ | with_reducible refine opp_gt ?_ | with_reducible refine opp_ge ?_
  | with_reducible refine opp_isN ?_ | with_reducible refine opp_notN ?_ | with_reducible refine unp_neg ?_
  | with_reducible refine ex_bl ?_ | with_reducible refine ex_dat ?_ | with_reducible refine ex_int ?_)
local macro_rules | `(tactic| wtm_at "e") => `(tactic| first | wtm_at "d" | with_reducible refine sd_set ?_)
variable {P : Program} {w : World} {K : PySem.W.Frag} {mg : Str → Option Value} {base : Heap} {A : Ads}
theorem sd_appE {W : Wd} {ρ : List Slot} {E : DE} {te : TE} {i : Nat} {ds : List DD} (es : List DD) (hi : ρ[i]? = some (.seq .own ds)) (hz : ds.length < 100000) (h : EvP W te ρ fun s => ∃ d, s = .dat d ∧ ds ++ [d] = es ∧ E.nx (ρ.set i (.seq .own es))) :
    SD W (tDrop (tBM K "list" rAppend (tVar i) (tCons te tNil))) ρ E := sd_app hi hz (h.imp fun s ⟨d, e, e2, k⟩ => ⟨d, e, by rw [e2]; exact k⟩)
def rowV (M n : Nat) : List Int := (List.range M).map fun j => if j = n then 1 else 0
def rowM (M : Nat) (rb rc ry : List Int) : List Int := (List.range M).map fun j => rc.getD j 0 + ry.getD j 0 - rb.getD j 0
/-- the rows of counts that a plan brings -/
def RowsOk (M : Nat) (pl : List Pl) (rs : List (List Int)) : Prop := rs.length = pl.length ∧ ∀ (i : Nat) (p : Pl), pl[i]? = some p → ∃ r : List Int, rs[i]? = some r ∧ r.length = M ∧ match p with
  | .v n => r = rowV M n
  | .m b c y => b < i ∧ c < i ∧ y < i ∧ ∃ rb rc ry, rs[b]? = some rb ∧ rs[c]? = some rc ∧ rs[y]? = some ry ∧ r = rowM M rb rc ry
def rowD (r : List Int) : DD := .tup (r.map .int)
abbrev c_step_counts : List Slot → (DD → Prop) → Prop := fun ss R => ∃ M pl rs, ss = [.dat (.int ((M : Nat) : Int)), .dat (.tup (List.map Pl.dd pl))] ∧ M ≤ 1000 ∧ pl.length ≤ 1000 ∧ RowsOk M pl rs ∧ R (.tup (rs.map rowD))
theorem RowsOk.len {M : Nat} {pl : List Pl} {rs : List (List Int)} (h : RowsOk M pl rs) {i : Nat} {r : List Int} (e : rs[i]? = some r) : r.length = M := by
  have hi : i < pl.length := by rw [← h.1]; exact (List.getElem?_eq_some_iff.mp e).1
  obtain ⟨r', e', hr, _⟩ := h.2 i _ (List.getElem?_eq_getElem hi)
  rw [e] at e'; cases e'; exact hr
theorem getD_int {r : List Int} {j : Nat} (h : j < r.length) : itemsOf (r.map .int) j = .int (r.getD j 0) := by
  rw [itemsOf_eq (d := .int r[j]) (by rw [List.getElem?_map, List.getElem?_eq_getElem h]; rfl), List.getD_eq_getElem?_getD, List.getElem?_eq_getElem h]; rfl
theorem ok_step_counts (T : Txt K mg A) : FD P w K mg base CX0 1 A.step_counts ["many", "plan"] (spP c_step_counts) := by
  obtain ⟨fd, F⟩ := T.F_step_counts
  refine ⟨F.kp, fd, ?_, F.binds fun _ _ _ _ _ _ us hl => match us, hl with | [_, _], _ => rfl⟩
  refine fn_sd F sc_step_counts no_mut no_mut2 ?len (by decide) fun cdv B outer s H E hr => ⟨_,
    (pss_cons (ps_set (i := 2) sc_step_counts.nd rfl (Or.inr rfl) (pe_lst pa_nil))
      (pss_cons (ps_for PassesOwn.never rfl (pi_seq (pv 1)) (pg_name (i := 3) sc_step_counts.nd rfl (Or.inr rfl))
      (pss_one (ps_if (pt_cmpR (r := rEqD K) (op_eqD hr.units) (pe_ix (r := rIx K) ix_seq (pv 3) pe_int (fun _ _ => rfl)) pe_str (nomark _))
      (pss_one (ps_expr (pe_bm PySem.F.plainAttrs_list PySem.F.slot_list_append PySem.F.type_list_append mt_append (pv 2) (pa_cons (pe_callTy (T := "tuple") (r := cTup K) call_cTup (by rfl) T.n_tuple (by decide +kernel) (pa_cons (pe_lc (own := [("version", 8)]) (g := (gName 8)) (by rfl) sc_step_counts.nd (pi_range1 (by rfl) T.n_range (pa_cons (pv 0) pa_nil)) (blkOk_by (own := [("version", 8)]) (N := N_step_counts) (sc := defScope s_step_counts) (by decide +kernel)) (fun _ _ _ _ _ => (pg_name (i := 8) sc_step_counts.nd rfl (Or.inl rfl))) (fun _ _ _ _ _ => pts_nil) (fun _ _ _ _ _ => (pe_ifExp (pt_cmpR (r := rEqD K) (op_eqD hr.units) (pv 8) (pe_ix (r := rIx K) ix_seq (pv 3) pe_int (fun _ _ => rfl)) (nomark _)) pe_int pe_int))) pa_nil)) pa_nil))))
      (pss_cons (ps_asg (pe_lc (own := [("one", 7)]) (g := (gName 7)) (by rfl) sc_step_counts.nd (pi_seq (pe_slice (r := rSlU K) sl_U (pv 3) (po_some pe_int) po_none)) (blkOk_by (own := [("one", 7)]) (N := N_step_counts) (sc := defScope s_step_counts) (by decide +kernel)) (fun _ _ _ _ _ => (pg_name (i := 7) sc_step_counts.nd rfl (Or.inl rfl))) (fun _ _ _ _ _ => pts_nil) (fun _ _ _ _ _ => (pe_ix (r := rIx K) ix_seq (pv 2) (pv 7) (fun _ _ => rfl)))) (pg_unl rfl (pgs_cons (pg_name (i := 4) sc_step_counts.nd rfl (Or.inl rfl)) (pgs_cons (pg_name (i := 5) sc_step_counts.nd rfl (Or.inl rfl)) (pgs_cons (pg_name (i := 6) sc_step_counts.nd rfl (Or.inl rfl)) pgs_nil)))))
      (pss_one (ps_expr (pe_bm PySem.F.plainAttrs_list PySem.F.slot_list_append PySem.F.type_list_append mt_append (pv 2) (pa_cons (pe_callTy (T := "tuple") (r := cTup K) call_cTup (by rfl) T.n_tuple (by decide +kernel) (pa_cons (pe_lc (own := [("one", 7), ("other", 9), ("old", 10)]) (g := (gTup K 3 (gCons (gName 7) (gCons (gName 9) (gCons (gName 10) gNil))))) (by rfl) sc_step_counts.nd (pi_zip3T (by rfl) T.n_zip (pa_cons (pv 5) (pa_cons (pv 6) (pa_cons (pv 4) pa_nil)))) (blkOk_by (own := [("one", 7), ("other", 9), ("old", 10)]) (N := N_step_counts) (sc := defScope s_step_counts) (by decide +kernel)) (fun _ _ _ _ _ => (pg_tup rfl (pgs_cons (pg_name (i := 7) sc_step_counts.nd rfl (Or.inl rfl)) (pgs_cons (pg_name (i := 9) sc_step_counts.nd rfl (Or.inl rfl)) (pgs_cons (pg_name (i := 10) sc_step_counts.nd rfl (Or.inl rfl)) pgs_nil))))) (fun _ _ _ _ _ => pts_nil) (fun _ _ _ _ _ => (pe_op op_subI (pe_op op_addU (pv 7) (pv 9)) (pv 10)))) pa_nil)) pa_nil))))))))
      (pss_one (ps_ret (pe_callTy (T := "tuple") (r := cTup K) call_cTup (by rfl) T.n_tuple (by decide +kernel) (pa_cons (pv 2) pa_nil)))))), ?body⟩
  case len => intro ss R RE hc; (first | (obtain ⟨_, rfl, _⟩ := hc; rfl) | (obtain ⟨_, _, rfl, _⟩ := hc; rfl) | (obtain ⟨_, _, _, rfl, _⟩ := hc; rfl) | (obtain ⟨_, _, _, _, rfl, _⟩ := hc; rfl) | (obtain ⟨_, _, _, _, _, rfl, _⟩ := hc; rfl) | (obtain ⟨_, _, _, _, _, _, rfl, _⟩ := hc; rfl) | (obtain ⟨_, _, _, _, _, _, _, rfl, _⟩ := hc; rfl) | (obtain ⟨_, _, _, _, _, _, _, _, rfl, _⟩ := hc; rfl) | (obtain ⟨_, _, _, _, _, _, _, _, _, rfl, _⟩ := hc; rfl) | (obtain ⟨_, _, _, _, _, _, _, _, _, _, rfl, _⟩ := hc; rfl) | (obtain ⟨_, _, _, _, _, _, _, _, _, _, _, rfl, _⟩ := hc; rfl))
  case body =>
    rintro W ss R RE _ _ ⟨M, pl, rs, rfl, hM, hpl, hok, hR⟩
    have hlen := hok.1
    repeat (wtm_at "d")
    refine sd_own (evf_lstD ?_)
    repeat (wtm_at "d")
    refine ⟨_, rfl, by decide, ?_⟩
    repeat (wtm_at "d")
    refine sd_for (vs := [3]) (wfp_seq ?_)
    repeat (wtm_at "d")
    refine ⟨_, .tup _, fun i ρ => ∃ u0 u1 u2 u3 u4 u5 u6 u7, ρ = [.dat (.int ((M : Nat) : Int)), .dat (.tup (List.map Pl.dd pl)), .seq .own ((rs.take i).map rowD), u0, u1, u2, u3, u4, u5, u6, u7], ⟨_, _, _, _, _, _, _, _, rfl⟩, fun i ρ hi hI => ?_, fun ρ hI => ?_⟩
    · obtain ⟨u0, u1, u2, u3, u4, u5, u6, u7, rfl⟩ := hI
      have hi : i < pl.length := by simpa using hi
      have hpi : pl[i]? = some pl[i] := List.getElem?_eq_getElem hi
      have hit : itemsOf (List.map Pl.dd pl) i = pl[i].dd := items_mapg hpi
      obtain ⟨r, hr, hrl, hcase⟩ := hok.2 i _ hpi
      have fin : (rs.take i).map rowD ++ [rowD r] = (rs.take (i + 1)).map rowD := by
        rw [List.take_add_one, hr, List.map_append]; rfl
      have hll : ((rs.take i).map rowD).length < 100000 := by rw [List.length_map, List.length_take]; omega
      rw [hit]
      refine gap_name (by decide) ?_
      generalize pl[i] = p at hcase
      cases p with
      | v n =>
        have hcase : r = rowV M n := hcase
        repeat (wtm_at "d")
        refine opp_ix (i := 0) (.tup _) rfl ?_
        repeat (wtm_at "d")
        refine opp_eq (n := 0) (by decide) (nn _) (nn _) (by decide +kernel) (by decide +kernel) fun q hq => ?_
        have hq : q = true := hq.mpr rfl
        subst hq
        refine ⟨_, rfl, fun _ => ?_, fun h => Bool.noConfusion h⟩
        refine sd_app rfl hll ?_
        repeat (wtm_at "d")
        refine evp_new (evf_map (WfP.wip (wfp_rng1 ?_)))
        repeat (wtm_at "d")
        refine ⟨_, rfl, by omega, by omega, by omega, fun j => .int (if j = n then 1 else 0), fun j hj => gap_name (by decide) ?_, ?_⟩
        · repeat (wtm_at "d")
          refine opp_ix (i := 1) (.tup _) rfl ?_
          refine opp_eq (n := 0) (by decide) (nn _) (nn _) rfl rfl fun q hq => ?_
          repeat (wtm_at "d")
          have hq : q = true ↔ j = n := hq.trans ⟨fun z => by have := DD.int.inj z; omega, fun z => by rw [z]⟩
          refine ⟨fun h => ?_, fun h => ?_⟩
          · repeat (wtm_at "d")
            exact congrArg (fun x => Slot.dat (DD.int x)) (if_pos (hq.mp h)).symm
          · repeat (wtm_at "d")
            exact congrArg (fun x => Slot.dat (DD.int x)) (if_neg (fun z => by rw [hq.mpr z] at h; cases h)).symm
        · repeat (wtm_at "d")
          refine cap_tuple (.lst _) ?_
          repeat (wtm_at "d")
          have e : DD.tup ((List.range (M : Int).toNat).map fun j => DD.int (if j = n then 1 else 0)) = rowD r := by
            rw [hcase]
            unfold rowD rowV
            rw [List.map_map, Int.toNat_natCast]; rfl
          rw [e, fin]
          exact ⟨_, _, _, _, _, _, _, _, rfl⟩
      | m b c y =>
        obtain ⟨hb, hc, hy, rb, rc, ry, eb, ec, ey, er⟩ := hcase
        have tk : ∀ {k : Nat} {x : List Int}, k < i → rs[k]? = some x → ((rs.take i).map rowD)[k]? = some (rowD x) := fun hk h => by rw [List.getElem?_map, List.getElem?_take_of_lt hk, h]; rfl
        repeat (wtm_at "d")
        refine opp_ix (i := 0) (.tup _) rfl ?_
        repeat (wtm_at "d")
        refine opp_eq (n := 0) (by decide) (nn _) (nn _) (by decide +kernel) (by decide +kernel) fun q hq => ?_
        have hq : q = false := (bl_of_iff hq).2 mv_ne
        subst hq
        refine ⟨_, rfl, fun h => Bool.noConfusion h, fun _ => ?_⟩
        repeat (wtm_at "d")
        refine sd_asgT (vs := [4, 5, 6]) (evp_new (evf_map (wip_seq (evp_fromS ?_))))
        repeat (wtm_at "d")
        refine ⟨_, .tup _, evo_part ?_⟩
        wtm_at "d"
        refine ⟨_, rfl, 1, rfl, fun t ht _ => ⟨_, ht, (show 3 ≤ 50000 by decide), fun j => rowD ([rb, rc, ry].getD j []), fun j hj => gap_name (by decide) ?_, ?_⟩⟩
        · repeat (wtm_at "d")
          refine evp_var (s := .seq .own ((rs.take i).map rowD)) rfl (fun h => nomatch h) ?_
          repeat (wtm_at "d")
          have hj : j < 3 := hj
          match j, hj with
          | 0, _ => exact opp_ixn (.seq _ _) (tk hb eb) rfl
          | 1, _ => exact opp_ixn (.seq _ _) (tk hc ec) rfl
          | 2, _ => exact opp_ixn (.seq _ _) (tk hy ey) rfl
          | n + 3, h => exact absurd h (by omega)
        · refine gap_unl rfl (gas_cons (gap_name (by decide) (gas_cons (gap_name (by decide) (gas_cons (gap_name (by decide) (gas_nil ?_)))))))
          refine sd_appE (ds := (rs.take i).map rowD) ((rs.take (i + 1)).map rowD) rfl hll ?_
          repeat (wtm_at "d")
          refine evp_new (evf_map (wip_zip3 ?_))
          repeat (wtm_at "d")
          refine ⟨_, _, _, rfl, ?_, ?_, ?_⟩
          · show (ry.map DD.int).length = (rc.map DD.int).length
            simp [hok.len ey, hok.len ec]
          · show (rb.map DD.int).length = (rc.map DD.int).length
            simp [hok.len eb, hok.len ec]
          refine ⟨by show (rc.map DD.int).length ≤ 50000; rw [show (rc.map DD.int).length = M by simp [hok.len ec]]; omega, fun j => .int (rc.getD j 0 + ry.getD j 0 - rb.getD j 0), fun j hj => ?_, ?_⟩
          · have hj : j < (rc.map DD.int).length := hj
            have hj : j < M := by simpa [hok.len ec] using hj
            show GaP W _ _ (.dat (.tup [itemsOf (rc.map DD.int) j, itemsOf (ry.map DD.int) j, itemsOf (rb.map DD.int) j])) _ _
            rw [getD_int (by rw [hok.len ec]; exact hj), getD_int (by rw [hok.len ey]; exact hj), getD_int (by rw [hok.len eb]; exact hj)]
            refine gap_tup rfl (gas_cons (gap_name (by decide) (gas_cons (gap_name (by decide) (gas_cons (gap_name (by decide) (gas_nil ?_)))))))
            repeat (wtm_at "d")
            rfl
          · repeat (wtm_at "d")
            refine cap_tuple (.lst _) ?_
            repeat (wtm_at "d")
            have e : DD.tup ((List.range (rc.map DD.int).length).map fun j => DD.int (rc.getD j 0 + ry.getD j 0 - rb.getD j 0)) = rowD r := by
              rw [er]
              unfold rowD rowM
              rw [List.map_map, List.length_map, hok.len ec]; rfl
            rw [← e] at fin
            exact ⟨fin, _, _, _, _, _, _, _, _, rfl⟩
    · obtain ⟨u0, u1, u2, u3, u4, u5, u6, u7, rfl⟩ := hI
      show SD W _ _ _
      rw [List.length_map, ← hlen, List.take_length]
      repeat (wtm_at "d")
      refine evp_var (s := .seq .own (rs.map rowD)) rfl (fun h => nomatch h) ?_
      repeat (wtm_at "d")
      refine cap_tuple (.seq _ _) ?_
      repeat (wtm_at "d")
      exact hR
end Dl

set_option Elab.async false
set_option linter.all false
set_option maxRecDepth 100000
set_option maxHeartbeats 1000000
/-! R3: {k: v for a in s for b in t} whose keys are tuples; {k: v} with a tuple as key. -/
namespace Dl
open PySem PySem.Spec PyProof.Rows L2

/-- the expression: two sources, no tests -/
abbrev dc2 (kx vx t0 i0 t1 i1 : Expr) (sc : Scope) (p : Pos) : Expr := .DictComp kx vx [⟨t0, i0, [], 0⟩, ⟨t1, i1, [], 0⟩] sc p
theorem dc2_turn0 (kx vx t0 i0 t1 i1 : Expr) (sc : Scope) (p : Pos) (it acc : Value) (env : Env) :
    compTurn (dc2 kx vx t0 i0 t1 i1 sc p) 0 it acc env = (do
      standAt i0.pos
      match ← pyNext it with
      | none => pure (.done .next)
      | some v =>
        letOwnedTupleGo t0 it v
        assign t0 env v
        let x ← eval i1 env
        standAt i1.pos
        let x ← foldedSetIterable i1 env x
        let _ ← runOwn (.compStart (dc2 kx vx t0 i0 t1 i1 sc p) 1 (← holding [x] (pyIter x)) acc env) env
        again (.compLoop (dc2 kx vx t0 i0 t1 i1 sc p) 0 it acc env)) := by rfl
theorem dc2_turn1 (kx vx t0 i0 t1 i1 : Expr) (sc : Scope) (p : Pos) (it : Value) (D : Addr) (env : Env) :
    compTurn (dc2 kx vx t0 i0 t1 i1 sc p) 1 it (.ref D) env = (do
      standAt i1.pos
      match ← pyNext it with
      | none => pure (.done .next)
      | some v =>
        letOwnedTupleGo t1 it v
        assign t1 env v
        (do
          let kv ← eval kx env
          let vv ← holding [kv] (eval vx env)
          standAt { kx.pos with endLine := vx.pos.endLine, endCol := vx.pos.endCol }
          holding [kv, vv] (dictSet D kv vv))
        again (.compLoop (dc2 kx vx t0 i0 t1 i1 sc p) 1 it (.ref D) env)) := by rfl
section
variable {prog : Program} {w : World} {A : Around} {R : Result → Shared → Prop} {s : Shared} {kx vx t0 i0 t1 i1 : Expr} {sc : Scope} {p : Pos} {it acc : Value} {D : Addr} {env : Env}
/-- what is wanted of an exception within the block -/
abbrev nb (prog : Program) (w : World) (A : Around) (env : Env) (R : Result → Shared → Prop) : Value → Shared → Prop := notedBy (model prog w) A env fun e s' => R (.error e) s'
theorem dc2_loop0 (hs : ∀ x, foldedSetIterable i1 env x = pure x) (I : Nat → Shared → Prop)
    (turn : ∀ n s, I n s → wpAny (model prog w) A (pyNext it) (fun r s₁ => match r with
      | none => R (.ok .next) s₁
      | some v => wpAny (model prog w) A (letOwnedTupleGo t0 it v) (fun _ s₂ => wpAny (model prog w) A (assign t0 env v) (fun _ s₃ => wpAny (model prog w) A (eval i1 env) (fun x s₄ => wpAny (model prog w) A (pyIter x) (fun it1 s₅ =>
          codeAny (model prog w) A (.compStart (dc2 kx vx t0 i0 t1 i1 sc p) 1 it1 acc env) (fun r s' => match r with
            | .ok _ => ∃ m, m < n ∧ I m s'
            | .error _ => False) s₅) (nb prog w A env R) s₄) (nb prog w A env R) s₃) (nb prog w A env R) s₂) (nb prog w A env R) s₁) (nb prog w A env R) s) (n : Nat) (h : I n s) :
    codeAny (model prog w) A (.compLoop (dc2 kx vx t0 i0 t1 i1 sc p) 0 it acc env) R s := by
  refine codeAny_loop rfl I (fun n s hI => ?_) n h
  show wpAny _ A ((compTurn (dc2 kx vx t0 i0 t1 i1 sc p) 0 it acc env).onRaise (fun x => do noteFrame x env; theTreesLotGoes x)) _ _ s
  rw [dc2_turn0]
  refine wpAny_noted (wpAny_bind (wpAny_standAt (wpAny_bind (wpAny_mono (turn n s hI) (fun r s₁ h₁ => ?_) fun _ _ z => z))))
  cases r with
  | none => exact wpAny_pure h₁
  | some v =>
    refine wpAny_bind (wpAny_mono h₁ (fun _ s₂ h₂ => wpAny_bind (wpAny_mono h₂ (fun _ s₃ h₃ => wpAny_bind (wpAny_mono h₃ (fun x s₄ h₄ => ?_) fun _ _ z => z)) fun _ _ z => z)) fun _ _ z => z)
    refine wpAny_bind (wpAny_standAt (wpAny_bind (wpAny_of_eq (hs x) (wpAny_bind (wpAny_holding (wpAny_mono h₄ (fun it1 s₅ h₅ => wpAny_bind (wpAny_runOwn ?_)) fun _ _ z => z))))))
    rw [Around.mark_none]
    refine codeAny_mono h₅ fun r s' hr => ?_
    cases r with
    | error e => exact hr.elim
    | ok f =>
      first
        | exact wpAny_pure ⟨rfl, hr⟩
        | exact wpAny_bind (wpAny_pure (wpAny_pure ⟨rfl, hr⟩))
theorem dc2_loop1 (I : Nat → Shared → Prop)
    (turn : ∀ n s, I n s → wpAny (model prog w) A (pyNext it) (fun r s₁ => match r with
      | none => R (.ok .next) s₁
      | some v => wpAny (model prog w) A (letOwnedTupleGo t1 it v) (fun _ s₂ => wpAny (model prog w) A (assign t1 env v) (fun _ s₃ => wpAny (model prog w) A (eval kx env) (fun kv s₄ => wpAny (model prog w) A (eval vx env) (fun vv s₅ =>
          wpAny (model prog w) A (dictSet D kv vv) (fun _ s₆ => ∃ m, m < n ∧ I m s₆) (nb prog w A env R) s₅) (nb prog w A env R) s₄) (nb prog w A env R) s₃) (nb prog w A env R) s₂) (nb prog w A env R) s₁) (nb prog w A env R) s) (n : Nat) (h : I n s) :
    codeAny (model prog w) A (.compLoop (dc2 kx vx t0 i0 t1 i1 sc p) 1 it (.ref D) env) R s := by
  refine codeAny_loop rfl I (fun n s hI => ?_) n h
  show wpAny _ A ((compTurn (dc2 kx vx t0 i0 t1 i1 sc p) 1 it (.ref D) env).onRaise (fun x => do noteFrame x env; theTreesLotGoes x)) _ _ s
  rw [dc2_turn1]
  refine wpAny_noted (wpAny_bind (wpAny_standAt (wpAny_bind (wpAny_mono (turn n s hI) (fun r s₁ h₁ => ?_) fun _ _ z => z))))
  cases r with
  | none => exact wpAny_pure h₁
  | some v =>
    refine wpAny_bind (wpAny_mono h₁ (fun _ s₂ h₂ => wpAny_bind (wpAny_mono h₂ (fun _ s₃ h₃ => wpAny_bind (wpAny_bind (wpAny_mono h₃ (fun kv s₄ h₄ => ?_) fun _ _ z => z))) fun _ _ z => z)) fun _ _ z => z)
    exact wpAny_bind (wpAny_holding (wpAny_mono h₄ (fun vv s₅ h₅ => wpAny_bind (wpAny_standAt (wpAny_holding (wpAny_mono h₅ (fun _ s₆ h₆ => wpAny_pure ⟨rfl, h₆⟩) fun _ _ z => z)))) fun _ _ z => z))
theorem dc2_start1 (h0 : codeAny (model prog w) A (.compLoop (dc2 kx vx t0 i0 t1 i1 sc p) 1 it acc env) R s)
    (h : wpAny (model prog w) A (pyIter it) (fun it' s' => codeAny (model prog w) A (.compLoop (dc2 kx vx t0 i0 t1 i1 sc p) 1 it' acc env) R s') (nb prog w A env R) s) :
    codeAny (model prog w) A (.compStart (dc2 kx vx t0 i0 t1 i1 sc p) 1 it acc env) R s := by
  refine codeAny_of_tree ?_
  show wpAny _ _ ((compStart (dc2 kx vx t0 i0 t1 i1 sc p) 1 it acc env).onRaise (fun x => do noteFrame x env; standAt theWindowsPlace)) _ _ s
  refine wpAny_notedAt ?_
  unfold compStart
  refine wpAny_bind (wpAny_askSetting (wpAny_ite ?_))
  split
  · first
      | exact wpAny_bind (wpAny_pure (wpAny_pure (And.intro rfl h0)))
      | exact wpAny_pure (And.intro rfl h0)
  · first
      | exact wpAny_bind (wpAny_rule (wpAny_bind (wpAny_standAt (wpAny_bind (wpAny_mono h (fun it' s' h' => wpAny_pure (And.intro rfl h')) fun _ _ z => z)))))
      | (refine wpAny_bind (wpAny_rule ?_); show wpAny _ _ (standAt i1.pos >>= _) _ _ s; exact wpAny_bind (wpAny_standAt (wpAny_bind (wpAny_mono h (fun it' s' h' => wpAny_pure (And.intro rfl h')) fun _ _ z => z))))
end
/-- d[k] = v by a comprehension, k a tuple -/
theorem dT_dictSet {X : Cx} {pins : List (Addr × Obj)} {σ : L2.St} {H : Hp} {s : Shared} {E : Value → Shared → Prop} {D b : Addr} {kvs : List (List Key × V)} {k : List Key} {v : V} {u r : Value} {Q : Unit → Shared → Prop} (hu : X.A.units < cLine) (I : Inv X pins σ H s) (hD : H D = some (.dT kvs)) (hz : kvs.length < sizeLine)
    (ry : RelV (.ref b) u) (eb : H b = some (.tup (k.map kV))) (rv : RelV v r) (h : ∀ s', Inv X pins σ (upd H D (.dT (putK kvs k v))) s' → Q () s') : wpAny (model X.prog X.w) X.A (dictSet D u r) Q E s := by
  cases (show u = Value.ref b from ry)
  obtain ⟨z, hd, xs, rel, dd⟩ := dt_of I.hok hD
  have hz2 : xs.length ≤ sizeLine := by rw [← Paired.length rel]; exact z
  have hl : (putK kvs k v).length ≤ sizeLine := by have := length_putK kvs k v; omega
  refine wpAny_dictSet_heap (hsz := hz2) (knd := tupleKind (mixKind X.prog X.w)) hu (key_of I.hok eb) dd fun h' dd' hs => h _ ?_
  obtain ⟨q, es, ep, hq, h2, h3, h4, _, h5⟩ := dd'
  refine d_write I (by rw [hD]; exact True.intro) hs ⟨q, hq⟩ ⟨hl, hd, _, (rel.put k eb rv).keeps fun c ys ec => ?_, q, es, ep, hq, h2, h3, h4, h5⟩
  rw [upd_ne (ne_of ec hD (fun z => nomatch z))]
  exact ec
section
variable {X : Cx}
/-- {k: v for tg in iter for tg1 in iter1}, the keys tuples of ints and texts; vs: the block's names, vs1: the second target's -/
def tDc2 (wi : TI) (g : TG) (wi1 : TI) (g1 : TG) (tk tv : TE) (vs vs1 : List Nat) : TE := fun σ H Q => wi σ H fun J H1 => ∀ D, H1 D = none → ∃ W : Nat → Nat → Hp → Prop, (∃ m, W 0 m (upd H1 D (.dT []))) ∧ ∀ i m H, W i m H →
  (J.stop i H ∧ Q (.ref D) H) ∨ (J.go i H ∧ ∃ Nx : Hp → Prop, (∀ H', Nx H' → ∃ m', m' < m ∧ W (i + 1) m' H') ∧ ∀ x H', J.yld i H x H' → g x (wipe σ vs) H' fun σ2 H2 => wipe σ2 vs = wipe σ vs ∧
    wi1 σ2 H2 fun J1 H4 => ∃ W1 : Nat → Nat → Hp → Prop, (∃ m, W1 0 m H4) ∧ ∀ j k H, W1 j k H →
      (J1.stop j H ∧ Nx H) ∨ (J1.go j H ∧ ∃ Nx1 : Hp → Prop, (∀ H', Nx1 H' → ∃ k', k' < k ∧ W1 (j + 1) k' H') ∧ ∀ x H', J1.yld j H x H' → g1 x (wipe σ2 vs1) H' fun σ3 H5 => wipe σ3 vs1 = wipe σ2 vs1 ∧
        tk σ3 H5 fun y H6 => tv σ3 H6 fun z H7 => ∃ kvs key b, y = .ref b ∧ H7 b = some (.tup (List.map kV key)) ∧ H7 D = some (.dT kvs) ∧ kvs.length < sizeLine ∧ Nx1 (upd H7 D (.dT (putK kvs key z)))))
theorem pe_dc2 {kx vx tg iter tg1 iter1 : Expr} {scope : Scope} {own : List (Str × Nat)} {vs1 : List Nat} {pos : Pos} {wi wi1 : TI} {g g1 : TG} {tk tv : TE} (hu : X.A.units < cLine)
    (hc : X.calm = true) (hN : X.N.Nodup) (hi : PI X tg iter wi) (ok : BlkOk X.N X.env.scope scope own) (hv : ∀ i ∈ vs1, i ∈ own.map (·.2))
    (hg : ∀ (s : Shared) (H : Hp) (C : Addr) (cl : List (Str × Addr)) (fp : List Addr), PG (X.blk s H scope (compEnvC scope cl C X.env) fp) tg g)
    (hi1 : ∀ (s : Shared) (H : Hp) (C : Addr) (cl : List (Str × Addr)) (fp : List Addr), PI (X.blk s H scope (compEnvC scope cl C X.env) fp) tg1 iter1 wi1)
    (hg1 : ∀ (s : Shared) (H : Hp) (C : Addr) (cl : List (Str × Addr)) (fp : List Addr), PG (X.blk s H scope (compEnvC scope cl C X.env) fp) tg1 g1)
    (hk : ∀ (s : Shared) (H : Hp) (C : Addr) (cl : List (Str × Addr)) (fp : List Addr), PE (X.blk s H scope (compEnvC scope cl C X.env) fp) kx tk)
    (he : ∀ (s : Shared) (H : Hp) (C : Addr) (cl : List (Str × Addr)) (fp : List Addr), PE (X.blk s H scope (compEnvC scope cl C X.env) fp) vx tv)
    (hs : ∀ x, foldedSetIterable iter X.env x = pure x := by intro _; rfl) (hs1 : ∀ env x, foldedSetIterable iter1 env x = pure x := by intro _ _; rfl) :
    PE X (dc2 kx vx tg iter tg1 iter1 scope pos) (tDc2 wi g wi1 g1 tk tv (own.map (·.2)) vs1) := by
  refine ⟨fun pins s σ H Q I h => ?_⟩
  rw [arm_eval_DictComp]
  have hfree : ∀ y ∈ scope.names, y.2 = .free → ∃ c, X.env.cells.lookup y.1 = some c := fun y hy e => (ok.free y hy e).elim (fun z => I.ok.has _ (.inl z)) (fun z => I.ok.has _ (.inr z))
  refine wpAny_comprehension_free (use := none) rfl hs (closure_ok hfree) ok.kind (fun y hy e => by rw [ok.uniq y hy, e]) (thn (hi.run pins s σ H _ I h) fun xv s1 hx => thn hx fun itv s2 h2 => ?_)
  obtain ⟨it, fp, tn, J, H2, rfl, I2, T, st2, f2, q⟩ := h2
  refine wpAny_newObj_type (newEnv_comp ?_)
  generalize hD : s2.heap.objs.size = D
  have hDn : H2 D = none := I2.hok.fresh (Nat.le_of_eq hD)
  obtain ⟨W, ⟨m0, w0⟩, turn⟩ := q D hDn
  generalize hs3 : ({ s2 with heap := s2.heap.push { cls := .type "dict", data := .dict #[] } } : Shared) = s3
  have I3 : Inv X pins σ (upd H2 D (.dT [])) s3 := by
    rw [← hs3]
    exact I2.laid (t' := s2.toks) (fun b o z => Heap.get?_push_of_some _ z) (Nat.le_of_eq hD) (by rw [← hD]; exact dt_empty s2.heap I2.big)
  have h3 : s3.heap = s2.heap.push { cls := .type "dict", data := .dict #[] } := by rw [← hs3]
  have f3 : ∀ b ∈ fp, FpOk X pins (upd H2 D (.dT [])) b ∧ b < s3.heap.objs.size := fun b hb => by
    obtain ⟨o, z, _⟩ := T.obj _ _ st2 b hb
    have hlt := Heap.lt_size z
    exact ⟨⟨by rw [upd_ne (by rw [← hD]; exact Nat.ne_of_lt hlt)]; exact (f2 b hb).1, (f2 b hb).2⟩, by rw [h3, Heap.size_push]; exact Nat.lt_succ_of_lt hlt⟩
  have st3 : tn 0 s3.heap := T.keep _ _ _ st2 fun b _ o z => by rw [h3]; exact Heap.get?_push_of_some _ z
  have I4 := block_start I3 ok hN f3
  obtain ⟨cl, ecl⟩ : ∃ cl, cl = cellsFrom (s3.heap.objs.size + 1) scope.names (cloFrom X.env.cells scope.names []) := ⟨_, rfl⟩
  have pg := hg s3 (upd H2 D (.dT [])) s3.heap.objs.size cl fp
  have pk := hk s3 (upd H2 D (.dT [])) s3.heap.objs.size cl fp
  have pe := he s3 (upd H2 D (.dT [])) s3.heap.objs.size cl fp
  have pi1 := hi1 s3 (upd H2 D (.dT [])) s3.heap.objs.size cl fp
  have pg1 := hg1 s3 (upd H2 D (.dT [])) s3.heap.objs.size cl fp
  rw [← ecl] at I4
  show codeAny _ _ (.compStart (dc2 kx vx tg iter tg1 iter1 scope pos) 0 (.ref it) (.ref D) (compEnvC scope (cellsFrom (s3.heap.objs.size + 1) scope.names (cloFrom X.env.cells scope.names [])) s3.heap.objs.size X.env)) (compPost (model X.prog X.w) X.A X.xe none _ (.ref D) s3.heap.objs.size) { s3 with heap := pushCells (s3.heap.push { cls := .type "dict", data := .dict #[] }) scope.names }
  rw [← ecl]
  have nfp : ∀ b ∈ fp, (upd H2 D (.dT [])) b = none := fun b hb => (f3 b hb).1.1
  generalize hce : compEnvC scope cl s3.heap.objs.size X.env = ce at I4 pg pk pe pi1 pg1 ⊢
  have cL : ce.locals = s3.heap.objs.size := by subst hce; rfl
  generalize hH3 : upd H2 D (.dT []) = H3 at I3 I4 pg pk pe pi1 pg1 w0 nfp f3
  generalize hs4 : ({ s3 with heap := pushCells (s3.heap.push { cls := .type "dict", data := .dict #[] }) scope.names } : Shared) = s4 at I4 ⊢
  have st4 : tn 0 s4.heap := T.keep _ _ _ st3 fun b _ o z => by rw [← hs4]; exact pushCells_keeps _ _ _ _ (Heap.get?_push_of_some _ z)
  have stat : ∀ {σ' : L2.St} {H' : Hp} {s' : Shared}, Inv (X.blk s3 H3 scope ce fp) [] σ' H' s' → (∀ b ∈ fp, H' b = none) → ∀ b ∈ fp, FpOk (X.blk s3 H3 scope ce fp) [] H' b := fun I' hn b hb =>
    ⟨hn b hb, (I'.ok.exf b hb).1, I'.ok.exfs b hb, .inl hb, fun x c z => (I'.ok.exf b hb).2 x c z, fun p hp => absurd (show p ∈ ([] : List (Addr × Obj)) ++ [] from hp) (by simp)⟩
  -- what holds between two turns of the first source; of the second
  let P0 : Nat → Shared → Prop := fun n s' => ∃ i H', Inv (X.blk s3 H3 scope ce fp) [] (wipe σ (own.map (·.2))) H' s' ∧ tn i s'.heap ∧ (∀ b ∈ fp, H' b = none) ∧ W i n H'
  have loop : codeAny (model X.prog X.w) X.A (.compLoop (dc2 kx vx tg iter tg1 iter1 scope pos) 0 (.ref it) (.ref D) ce) (compPost (model X.prog X.w) X.A X.xe none (EP X pins σ Q) (.ref D) s3.heap.objs.size) s4 := by
    refine dc2_loop0 (hs1 ce) P0 ?_ m0 ⟨0, H3, I4, st4, nfp, w0⟩
    rintro n s5 ⟨i, H5, I5, st5, n5, w5⟩
    rcases turn i n H5 w5 with ⟨stop, qq⟩ | ⟨go, Nx, hNx, step⟩
    · refine thnF (T.done (X.blk s3 H3 scope ce fp) rfl rfl rfl hc i [] s5 _ H5 (fun _ _ => False) I5 (stat I5 n5) st5 stop) fun r s6 ⟨hr, I6⟩ => ?_
      subst hr
      have I7 : Inv X pins σ H5 s6 := I3.call' (ch := fp) I6.os I6.base I6.hok I6.bare fun b hb => ⟨(f3 b hb).1.2.2.2.1, (f3 b hb).1.2.1, (f3 b hb).1.2.2.2.2.1, (f3 b hb).1.2.2.2.2.2⟩
      have nC : H5 s3.heap.objs.size = none := by rw [← cL]; exact I6.free
      obtain ⟨m, hn, _⟩ := I6.loc
      have hn : s6.heap.Ns ce.locals m := hn
      rw [cL] at hn
      obtain ⟨f0, f1, f2, f3, f4, f5⟩ := I3.fpOk (Nat.le_refl _) nC
      exact ⟨m, hn, fun h'' sb => ⟨.ref D, H5, I7.turned (t' := s6.toks) (fun b o hb z => (sb.2 b hb).trans z) f0 f1 f3 f4 f5, rfl, qq⟩⟩
    · refine thnF (T.item (X.blk s3 H3 scope ce fp) rfl rfl rfl hc i [] s5 _ H5 (fun _ _ => False) I5 (stat I5 n5) st5 go) fun r s6 ⟨u, hr, h6⟩ => ?_
      subst hr
      refine thnF h6 fun _ s7 ⟨x, H7, I7, r7, y7, st7, n7⟩ => ?_
      have I7' := I7.pinned (stat I7 n7) (T.obj _ _ st7)
      refine thnF (pg.run _ s7 _ H7 x u _ I7' r7 (step x H7 y7)) fun _ s8 ⟨σ8, H8, I8, hw8, q8⟩ => ?_
      refine thnF (pi1.run _ s8 σ8 H8 _ I8 q8) fun xv s10 hx => thnF hx fun itv s11 h11 => ?_
      obtain ⟨it1, fp1, tn1, J1, H11, rfl, I11, T1, st11, f11, W1, ⟨m1, w1⟩, turn1⟩ := h11
      have stat1 : ∀ {H' : Hp}, (∀ b ∈ fp1, H' b = none) → ∀ b ∈ fp1, FpOk (X.blk s3 H3 scope ce fp) ([] ++ pinsAt fp s7.heap) H' b := fun hn b hb => ⟨hn b hb, (f11 b hb).2⟩
      -- the end of a turn of the first source
      have fin : ∀ {s' : Shared} {H' : Hp}, Inv (X.blk s3 H3 scope ce fp) ([] ++ pinsAt fp s7.heap) (wipe σ8 vs1) H' s' → Nx H' → ∃ m, m < n ∧ P0 m s' := fun {s' H'} I' nx => by
        obtain ⟨m', hm, w'⟩ := hNx H' nx
        have pin' : ∀ b ∈ fp, ∀ o, s7.heap.get? b = some o → s'.heap.get? b = some o ∧ H' b = none := fun b hb o z => by
          have z := I'.pin (b, o) (List.mem_append_right _ (List.mem_append_right _ (mem_pinsAt hb z)))
          exact ⟨z.1, z.2.1⟩
        have hl8 : (wipe σ (own.map (·.2))).length = (wipe σ8 vs1).length := by rw [← hw8, wipe_length, wipe_length]
        refine ⟨m', hm, i + 1, H', (I'.unpinned (pins := [])).weak hl8 (fun j v z => ?_), T.keep _ _ _ st7 fun b hb o z => (pin' b hb o z).1, fun b hb => ?_, w'⟩
        · rw [← hw8] at z
          obtain ⟨z1, z2⟩ := wipe_some z
          rw [wipe_out fun y => z2 (hv j y)]
          exact z1
        · obtain ⟨o, z, _⟩ := T.obj _ _ st7 b hb
          exact (pin' b hb o z).2
      let P1 : Nat → Shared → Prop := fun k s' => ∃ j H', Inv (X.blk s3 H3 scope ce fp) ([] ++ pinsAt fp s7.heap) (wipe σ8 vs1) H' s' ∧ tn1 j s'.heap ∧ (∀ b ∈ fp1, H' b = none) ∧ W1 j k H'
      have loop1 : codeAny (model X.prog X.w) X.A (.compLoop (dc2 kx vx tg iter tg1 iter1 scope pos) 1 (.ref it1) (.ref D) ce) (fun r s' => match r with
          | .ok _ => ∃ m, m < n ∧ P0 m s'
          | .error _ => False) s11 := by
        refine dc2_loop1 P1 ?_ m1 ⟨0, H11, I11.weak (wipe_length _ _) (fun j v z => (wipe_some z).1), st11, fun b hb => (f11 b hb).1, w1⟩
        rintro k s12 ⟨j, H12, I12, st12, n12, w12⟩
        rcases turn1 j k H12 w12 with ⟨stop1, nx1⟩ | ⟨go1, Nx1, hNx1, step1⟩
        · refine thnF (T1.done (X.blk s3 H3 scope ce fp) rfl rfl rfl hc j _ s12 (wipe σ8 vs1) H12 (fun _ _ => False) I12 (stat1 n12) st12 stop1) fun r s13 ⟨hr, I13⟩ => ?_
          subst hr
          exact fin I13 nx1
        · refine thnF (T1.item (X.blk s3 H3 scope ce fp) rfl rfl rfl hc j _ s12 (wipe σ8 vs1) H12 (fun _ _ => False) I12 (stat1 n12) st12 go1) fun r s13 ⟨u1, hr, h13⟩ => ?_
          subst hr
          refine thnF h13 fun _ s14 ⟨x1, H14, I14, r14, y14, st14, n14⟩ => ?_
          have I14' := I14.pinned (stat1 n14) (T1.obj _ _ st14)
          refine thnF (pg1.run _ s14 (wipe σ8 vs1) H14 x1 u1 _ I14' r14 (step1 x1 H14 y14)) fun _ s15 ⟨σ15, H15, I15, hw15, q15⟩ => ?_
          refine thnF (pk.run _ s15 σ15 H15 _ I15 q15) fun z1 s16 ⟨yk, H16, I16, r16, q16⟩ => ?_
          refine thnF (pe.run _ s16 σ15 H16 _ I16 q16) fun z2 s17 ⟨yv, H17, I17, r17, kvs, key, b, ek, eb, hD17, hz17, nx⟩ => ?_
          subst ek
          refine dT_dictSet (X := X.blk s3 H3 scope ce fp) hu I17 hD17 hz17 r16 eb r17 fun s18 I18 => ?_
          obtain ⟨m', hm, w'⟩ := hNx1 _ nx
          have pin' : ∀ b ∈ fp1, ∀ o, s14.heap.get? b = some o → s18.heap.get? b = some o ∧ (upd H17 D (.dT (putK kvs key yv))) b = none := fun b hb o z => by
            have z := I18.pin (b, o) (List.mem_append_right _ (List.mem_append_right _ (mem_pinsAt hb z)))
            exact ⟨z.1, z.2.1⟩
          refine ⟨m', hm, j + 1, _, I18.unpinned.weak (by rw [← hw15, wipe_length]) (fun j v z => by rw [← hw15] at z; exact (wipe_some z).1), T1.keep _ _ _ st14 fun b hb o z => (pin' b hb o z).1, fun b hb => ?_, w'⟩
          obtain ⟨o, z, _⟩ := T1.obj _ _ st14 b hb
          exact (pin' b hb o z).2
      exact dc2_start1 loop1 (T1.self X.A 0 _ _ _ st11 loop1)
  exact codeAny_compStart_dict loop (T.self X.A 0 _ _ _ st4 loop)
end
end Dl

set_option Elab.async false
set_option linter.all false
set_option maxRecDepth 100000
set_option maxHeartbeats 1000000
/-! D10: dicts whose keys are tuples, over data; two lists at once. -/
namespace Dl
open PySem PySem.Spec PyProof.Rows L2

/-! ### {k: v}, k a tuple -/
def tDisp1T (tk tv : TE) : TE := fun σ H Q => ∀ p, H p = none → tk σ (upd H p (.dT [])) fun y H1 => tv σ H1 fun z H2 => ∃ key b, y = .ref b ∧ H2 b = some (.tup (List.map kV key)) ∧ H2 p = some (.dT []) ∧ Q (.ref p) (upd H2 p (.dT [(key, z)]))
theorem pe_disp1T {X : Cx} {k v : Expr} {tk tv : TE} {pos : Pos} (hu : X.A.units < cLine) (hk : PE X k tk) (hv : PE X v tv) : PE X (.Dict [some k] [v] pos) (tDisp1T tk tv) := by
  refine ⟨fun pins s σ H Q I q => ?_⟩
  have hn := I.hok.fresh (Nat.le_refl s.heap.objs.size)
  have I1 := I.laid (a := s.heap.objs.size) (o := .dT []) (h' := s.heap.push { cls := .type "dict", data := .dict #[] }) (t' := s.toks) (fun _ _ q => Heap.get?_push_of_some _ q) (Nat.le_refl _) (dt_empty s.heap I.big)
  refine wpAny_Dict_any rfl rfl (fun z => nomatch z) (show 1 ≤ 15 by decide) (pairTrees_cons_walk (thn (hk.run pins _ σ _ _ I1 (q _ hn)) fun u s1 ⟨y, H1, J1, ry, q1⟩ => thn (hv.run pins s1 σ H1 _ J1 q1) fun r s2 ⟨z, H2, J2, rz, q2⟩ => pairTrees_nil_walk ?_))
  obtain ⟨key, b, ey, eb, ep, q2⟩ := q2
  subst ey
  unfold storeAll
  rw [List.forIn_cons]
  refine wpAny_bind (wpAny_bind (dT_dictSet hu J2 ep (by show 0 < sizeLine; decide) ry eb rz fun s3 J3 => wpAny_pure ?_))
  simp only [List.forIn_nil]
  exact wpAny_pure ⟨.ref s.heap.objs.size, _, J3, rfl, q2⟩
/-- list(d), d's keys tuples -/
def cLsT : List V → Hp → VK → Prop := fun xs H Q => ∃ d kvs, xs = [V.ref d] ∧ Rd H d (.dT kvs) ∧ ∀ p bs, H p = none → IsKeys H kvs bs → Q (.ref p) (upd H p (.lst (bs.map V.ref)))
theorem call_cLsT {X : Cx} (hc : X.calm = true) : CallR X (.type "list") cLsT := call_list_dT hc

/-! ### keys as data -/
def kD : Key → DD
  | .inl i => .int i
  | .inr x => .str x
def keyD (k : List Key) : DD := .tup (k.map kD)
theorem rp_keys {G : Hp} : ∀ {k : List Key} {xs : List V}, RpAll G xs (k.map kD) → xs = k.map kV
  | [], _, h => by cases h; rfl
  | .inl i :: r, _, h => by
    cases h with
    | cons h1 h2 => cases h1; rw [rp_keys h2]; rfl
  | .inr i :: r, _, h => by
    cases h with
    | cons h1 h2 => cases h1; rw [rp_keys h2]; rfl
theorem rp_key {G : Hp} {x : V} {k : List Key} (h : Rp G x (keyD k)) : ∃ b, x = .ref b ∧ G b = some (.tup (k.map kV)) := by
  cases h with
  | tup h1 h2 => exact ⟨_, rfl, by rw [← rp_keys h2]; exact h1⟩
section
variable {W : Wd} {ρ : List Slot} {K : PySem.W.Frag} {P : Slot → Prop} {ta tb tk tv : TE}
theorem evp_dnewT (k : P (.dat (.dT []))) : EvP W tDNewT ρ P := fun σ G H S Q q p hp => by
  have f := W.new (o := .dT []) S.cur hp
  exact q _ _ _ _ f (vd (Rp.dT upd_same)) k
theorem evp_disp1T (h : EvP W tk ρ fun s => ∃ k, s = .dat (keyD k) ∧ EvP W tv ρ fun t => ∃ b, t = .dat (.bl b) ∧ P (.dat (.dT [(k, .bl b)]))) : EvP W (tDisp1T tk tv) ρ P := fun σ G H S Q q p hp => by
  have f0 := W.newH (o := .dT []) S.cur hp
  have gp := fresh_g S.cur.gh hp
  have mp := W.nm S.cur hp
  refine h σ G _ (S.go f0) _ fun x G1 H1 s f1 v1 ⟨k, e, h1⟩ => ?_
  subst e
  refine h1 σ G1 H1 ((S.go f0).go f1) _ fun z G2 H2 t f2 v2 ⟨b, e, pk⟩ => ?_
  subst e
  cases v2
  obtain ⟨c, rfl, hc⟩ := rp_key v1
  have hp2 : H2 p = some (.dT []) := f2.keep _ _ mp (f1.keep _ _ mp upd_same)
  have gp2 : G2 p = none := f2.dom p (by rw [f1.keep _ _ mp upd_same]; exact fun z => nomatch z) (f1.dom p (by rw [upd_same]; exact fun z => nomatch z) gp)
  refine ⟨k, c, rfl, f2.gh _ _ (f2.gg _ _ hc), hp2, ?_⟩
  have f := Fr.mut (o := .dT [(k, .bl b)]) ((f0.trans f1).trans f2) hp gp2 mp
  have f' := f.settle hp gp2 upd_same
  exact q _ _ _ _ f' (vd (Rp.dT upd_same)) pk
/-- y in d -/
theorem evp_din {ty td : TE} (h : EvP W ty ρ fun s => ∃ k, s = .dat (keyD k) ∧ EvP W td ρ fun t => ∃ kvs, t = .dat (.dT kvs) ∧ P (.dat (.bl (valV kvs k).isSome))) : EvP W (tDIn ty td) ρ P := fun σ G H S Q q =>
  h σ G H S _ fun x G1 H1 s f1 v1 ⟨k, e, h1⟩ => by
    subst e
    refine h1 σ G1 H1 (S.go f1) _ fun z G2 H2 t f2 v2 ⟨kvs, e, pk⟩ => ?_
    subst e
    obtain ⟨c, rfl, hc⟩ := rp_key v1
    cases v2 with
    | @dT a _ ha =>
      exact ⟨a, _, rfl, .inr ⟨kvs, k, c, .inl (f2.gh _ _ ha), rfl, f2.gh _ _ (f2.gg _ _ hc), rfl⟩, q _ G2 H2 _ (f1.trans f2) (vd (Rp.bl _)) pk⟩

/-! ### the two sources -/
def InnP (W : Wd) (K : PySem.W.Frag) (wi1 : TI) (ρ : List Slot) (f : List (List Key)) : Prop := ∀ σ G H, St W G H σ ρ → ∀ R : It → Hp → Prop,
  (∀ a xs G2 H2, W.Go G H G2 H2 → H2 a = some (.lst xs) → Paired (fun (x : V) (k : List Key) => ∃ b, x = .ref b ∧ H2 b = some (.tup (List.map kV k))) xs f → R (Itl K a) H2) → wi1 σ H R
theorem inn_cat {f : List (List Key)} (h : EvP W ta ρ fun s => ∃ k0, s = .dat (keyD k0) ∧ EvP W tb ρ fun t => ∃ kvs : List (List Key × V), t = .dat (.dT kvs) ∧ f = k0 :: kvs.map (·.1) ∧ kvs.length ≤ 90000) :
    InnP W K (iSeq K (tOp rAddU (tLst (tCons ta tNil)) (tCB cLsT (tCons tb tNil)))) ρ f := fun σ G H S R k => by
  refine h σ G H S _ fun x G1 H1 s f1 v1 ⟨k0, e, h1⟩ => ?_
  subst e
  obtain ⟨c, rfl, hc⟩ := rp_key v1
  refine ⟨by show 1 ≤ sizeLine; decide, fun p1 hp1 => ?_⟩
  have S1 := S.go f1
  have g1 := W.newH (o := .lst [V.ref c]) S1.cur hp1
  have m1 := W.nm S1.cur hp1
  refine h1 σ G1 _ (S1.go g1) _ fun z G2 H2 t f2 v2 ⟨kvs, e, ef, hl⟩ => ?_
  subst e; subst ef
  cases v2 with
  | @dT d _ hd =>
  have S2 := (S1.go g1).go f2
  refine ⟨d, kvs, rfl, .inl (f2.gh _ _ hd), fun p2 bs hp2 hk => ?_⟩
  have g2 := W.newH (o := .lst (bs.map V.ref)) S2.cur hp2
  have m2 := W.nm S2.cur hp2
  have S3 := S2.go g2
  have e1 : (upd H2 p2 (.lst (bs.map V.ref))) p1 = some (.lst [V.ref c]) := g2.keep _ _ m1 (f2.keep _ _ m1 upd_same)
  have lk : kvs.length = bs.length := Paired.length hk
  refine .inr ⟨p1, p2, _, _, rfl, rfl, e1, upd_same, ?_, fun p3 hp3 => ?_⟩
  · rw [List.length_map, List.length_singleton]
    exact sz_le (by omega)
  have g3 := W.newH (o := .lst ([V.ref c] ++ bs.map V.ref)) S3.cur hp3
  have ft := ((((f1.trans g1).trans f2).trans g2).trans g3)
  refine ⟨p3, rfl, .inl ⟨_, SqL.of upd_same, k p3 _ G2 _ ft upd_same ?_⟩⟩
  have up : ∀ {b : Addr} {ys : List V}, H2 b = some (.tup ys) → (upd (upd H2 p2 (.lst (bs.map V.ref))) p3 (.lst ([V.ref c] ++ bs.map V.ref))) b = some (.tup ys) := fun {b ys} z => by
    have z2 : (upd H2 p2 (.lst (bs.map V.ref))) b = some (.tup ys) := by rw [upd_ne (ne_of_none z hp2)]; exact z
    rw [upd_ne (ne_of_none z2 hp3)]; exact z2
  refine .cons ⟨c, rfl, up (f2.gh _ _ (f2.gg _ _ (g1.gg _ _ hc)))⟩ ?_
  clear lk g2 m2 S3 e1 g3 ft hl k
  have go : ∀ {kvs : List (List Key × V)} {cs : List Addr}, IsKeys H2 kvs cs → Paired (fun (x : V) (k : List Key) => ∃ b, x = .ref b ∧ (upd (upd H2 p2 (.lst (bs.map V.ref))) p3 (.lst ([V.ref c] ++ bs.map V.ref))) b = some (.tup (List.map kV k))) (cs.map V.ref) (kvs.map (·.1)) := by
    intro kvs cs hk
    unfold IsKeys at hk
    induction hk with
    | nil => exact .nil
    | cons h t ih => exact .cons ⟨_, rfl, up h⟩ ih
  exact go hk
def putAll (kvs : List (List Key × V)) (l : List (List Key)) : List (List Key × V) := l.foldl (fun acc k => putK acc k (.bl true)) kvs
theorem putAll_len : ∀ {l : List (List Key)} {kvs : List (List Key × V)}, (putAll kvs l).length ≤ kvs.length + l.length
  | [], kvs => Nat.le_refl _
  | k :: r, kvs => by
    have h1 := putAll_len (l := r) (kvs := putK kvs k (.bl true))
    have h2 := length_putK kvs k (.bl true)
    show (putAll (putK kvs k (.bl true)) r).length ≤ _
    rw [List.length_cons]; omega
theorem putAll_app {l m : List (List Key)} {kvs : List (List Key × V)} : putAll kvs (l ++ m) = putAll (putAll kvs l) m := List.foldl_append ..
theorem flat_len {f : Nat → List (List Key)} {b : Nat} : ∀ {n : Nat}, (∀ i, i < n → (f i).length ≤ b) → (((List.range n).map f).flatten).length ≤ n * b
  | 0, _ => by simp
  | n + 1, h => by
    have ih := flat_len (n := n) fun i hi => h i (by omega)
    rw [List.range_succ, List.map_append, List.flatten_append, List.length_append]
    have := h n (by omega)
    simp only [List.map_cons, List.map_nil, List.flatten_cons, List.flatten_nil, List.append_nil]
    rw [Nat.add_mul]; omega
theorem paired_get {α β : Type} {F : α → β → Prop} : ∀ {xs : List α} {ys : List β} {i : Nat} {x : α}, Paired F xs ys → xs[i]? = some x → ∃ y, ys[i]? = some y ∧ F x y
  | _, _, _, _, .nil, e => by simp at e
  | _, _, 0, _, .cons h _, e => by simp at e; subst e; exact ⟨_, rfl, h⟩
  | _, _, i + 1, _, .cons _ t, e => by
    obtain ⟨v, h1, h2⟩ := paired_get (i := i) t (by simpa using e)
    exact ⟨v, by simpa using h1, h2⟩
theorem evp_dc2 {wi wi1 : TI} {g : TG} {vs : List Nat} {k1 : Nat} (hk1 : k1 < ρ.length) (h : WiP W wi ρ fun n y => ∃ f : Nat → List (List Key), n * 900 ≤ 90000 ∧ (∀ i, i < n → (f i).length ≤ 900) ∧
    (∀ i, i < n → GaP W g vs (.dat (y i)) (wipeS ρ vs) fun ρ2 => InnP W K wi1 ρ2 (f i)) ∧ P (.dat (.dT (putAll [] ((List.range n).map f).flatten)))) :
    EvP W (tDc2 wi g wi1 (gName k1) (tVar k1) (tC (.bl true)) vs [k1]) ρ P := fun σ G H S Q q =>
  h σ G H S _ fun J G1 H1 n y L f1 l1 w st ⟨f, hn, hf, hs, hd⟩ D hD => by
    have S1 := S.go f1
    have gD : G1 D = none := fresh_g S1.cur.gh hD
    have mD : ¬ W.M D := W.nm S1.cur hD
    have bound : ∀ i, i ≤ n → (((List.range i).map f).flatten).length ≤ 90000 := fun i hi => Nat.le_trans (flat_len fun j hj => hf j (by omega)) (Nat.le_trans (Nat.mul_le_mul_right _ hi) hn)
    refine ⟨fun i m H' => m = n - i ∧ i ≤ n ∧ ∃ G', W.Go G1 H1 G' H' ∧ G' D = none ∧ H' D = some (.dT (putAll [] ((List.range i).map f).flatten)), ⟨n, by simp, Nat.zero_le _, G1, W.newH S1.cur hD, gD, upd_same⟩, ?_⟩
    rintro i m H' ⟨rfl, hi, G', f2, gD', hD'⟩
    have c2 := S1.cur.trans f2
    have l2 := st G1 H1 G' H' l1 f2
    by_cases hlt : i < n
    · refine .inr ⟨w.goes i G' H' hlt c2 l2, fun H2 => ∃ G2, W.Go G1 H1 G2 H2 ∧ G2 D = none ∧ H2 D = some (.dT (putAll [] ((List.range (i + 1)).map f).flatten)), fun H2 ⟨G2, z⟩ => ⟨n - (i + 1), by omega, rfl, hlt, G2, z⟩, fun x H2 yl => ?_⟩
      obtain ⟨G2, f3, rx⟩ := w.yields i G' H' x H2 hlt c2 l2 yl
      have S2 : St W G2 H2 (wipe σ vs) (wipeS ρ vs) := (S1.wipe vs).go (f2.trans f3)
      refine hs i hlt _ G2 H2 x S2 (vd rx) _ fun σ3 ρ3 S3 e3 h3 => ⟨wipe_eq (e3.1.trans (wipe_length _ _)) e3.2, ?_⟩
      refine h3 σ3 G2 H2 S3 _ fun a xs G4 H4 f4 ha hp => ?_
      have nD : H' D ≠ none := by rw [hD']; exact fun z => nomatch z
      have f34 := f3.trans f4
      have gD4 : G4 D = none := f34.dom D nD gD'
      have hD4 : H4 D = some (.dT (putAll [] ((List.range i).map f).flatten)) := f34.keep D _ mD hD'
      have l3 : σ3.length = ρ.length := by rw [e3.1, wipe_length]; exact S.len
      have lx : xs.length = (f i).length := Paired.length hp
      refine ⟨fun j k H5 => k = (f i).length - j ∧ j ≤ (f i).length ∧ W.Go G1 H1 G4 H5 ∧ H5 D = some (.dT (putAll [] (((List.range i).map f).flatten ++ (f i).take j))) ∧ H5 a = some (.lst xs) ∧ ∀ b ys, H4 b = some (.tup ys) → H5 b = some (.tup ys),
        ⟨(f i).length, by simp, Nat.zero_le _, f2.trans f34, by rw [List.take_zero, List.append_nil]; exact hD4, ha, fun _ _ z => z⟩, ?_⟩
      rintro j k H5 ⟨rfl, hj, f5, hD5, ha5, ht5⟩
      by_cases hjl : j < (f i).length
      · obtain ⟨v, hv⟩ : ∃ v, xs[j]? = some v := ⟨_, List.getElem?_eq_getElem (by omega)⟩
        refine .inr ⟨⟨xs, v, SqL.of ha5, hv⟩, fun H6 => W.Go G1 H1 G4 H6 ∧ H6 D = some (.dT (putAll [] (((List.range i).map f).flatten ++ (f i).take (j + 1)))) ∧ H6 a = some (.lst xs) ∧ ∀ b ys, H4 b = some (.tup ys) → H6 b = some (.tup ys),
          fun H6 z => ⟨(f i).length - (j + 1), by omega, rfl, hjl, z⟩, fun v2 H6 yl2 => ?_⟩
        obtain ⟨e6, y6⟩ := yl2
        subst e6
        have ev := Option.some.inj ((y6 xs (SqL.of ha5)).symm.trans hv)
        subst ev
        obtain ⟨key, hkey, b, eb, hb⟩ := paired_get hp hv
        subst eb
        refine ⟨?_, V.ref b, ?_, _, key, b, rfl, ht5 b _ hb, hD5, ?_, ?_⟩
        · have l6 : k1 < (wipe σ3 [k1]).length := by rw [wipe_length]; omega
          exact wipe_eq (by rw [List.length_set, wipe_length]) fun j hj => by
            rw [List.getElem?_set_ne (fun z => hj (by rw [← z]; exact List.mem_singleton.mpr rfl))]
        · rw [List.getElem?_set_self (by rw [wipe_length]; omega)]
        · have h1 := putAll_len (l := ((List.range i).map f).flatten ++ (f i).take j) (kvs := [])
          have h2 := bound i hi
          have h3 := hf i hlt
          rw [List.length_append, List.length_take, List.length_nil] at h1
          exact sz_lt (by omega)
        · refine ⟨f5.mut hD gD4 mD, ?_, ?_, fun c ys z => ?_⟩
          · rw [upd_same, List.take_add_one, hkey, ← List.append_assoc, putAll_app (m := (some key).toList)]; rfl
          · rw [upd_ne (ne_of ha5 hD5 (fun z => nomatch z))]; exact ha5
          · have z := ht5 c ys z
            rw [upd_ne (ne_of z hD5 (fun z => nomatch z))]; exact z
      · have ej : j = (f i).length := by omega
        subst ej
        refine .inl ⟨⟨xs, SqL.of ha5, by omega⟩, G4, f5, gD4, ?_⟩
        rw [List.take_length] at hD5
        rw [hD5, List.range_succ, List.map_append, List.flatten_append]
        simp
    · have e : i = n := by omega
      subst e
      have f' := (f1.trans f2).settle (f1.fr D hD) gD' hD'
      exact .inl ⟨w.stops G' H' c2 l2, q _ _ _ _ f' (vd (Rp.dT upd_same)) hd⟩
end
end Dl

set_option Elab.async false
set_option linter.all false
set_option maxRecDepth 100000
set_option maxHeartbeats 1000000
/-! D11: two lists at once; dicts with int keys; several small things. -/
namespace Dl
open PySem PySem.Spec PyProof.Rows L2
section
variable {X : Cx} {K : PySem.W.Frag} {tg : Expr}
theorem pi_seqK {l : Expr} {tl : TE} (hK : X.K = K) (hl : PE X l tl) : PI X tg l (iSeq K tl) := by subst hK; exact pi_seq hl
theorem pi_enumK {e : Expr} {ta : TA} {p pos tpos : Pos} {elts : List Expr} {kk : Nat} (hK : X.K = K) (hg : Gl X "enumerate") (hm : X.mg "enumerate" = none) (ha : PA X [e] ta) (hs : starEach [e] X.env = [(false, eval e X.env)] := by rfl) :
    PI X (.Tuple elts kk tpos) (.Call (.Name "enumerate" p) [e] [] pos) (iEnumU K ta) := by subst hK; exact pi_enumU hg hm ha hs
theorem pi_zipK {e e2 : Expr} {ta : TA} {p pos tpos : Pos} {elts : List Expr} {kk : Nat} (hK : X.K = K) (hg : Gl X "zip") (hm : X.mg "zip" = none) (ha : PA X [e, e2] ta)
    (hs : starEach [e, e2] X.env = (false, eval e X.env) :: starEach [e2] X.env := by rfl) (hpl : (backTo pos (starEach [e2] X.env)).any (·.1) = false := by rfl) :
    PI X (.Tuple elts kk tpos) (.Call (.Name "zip" p) [e, e2] [] pos) (iZip K ta) := by subst hK; exact pi_zip hg hm ha hs hpl
theorem pi_zip3K {e e2 e3 : Expr} {ta : TA} {p pos tpos : Pos} {elts : List Expr} {kk : Nat} (hK : X.K = K) (hg : Gl X "zip") (hm : X.mg "zip" = none) (ha : PA X [e, e2, e3] ta)
    (hs : starEach [e, e2, e3] X.env = (false, eval e X.env) :: starEach [e2, e3] X.env := by rfl) (hpl : (backTo pos (starEach [e2, e3] X.env)).any (·.1) = false := by rfl) :
    PI X (.Tuple elts kk tpos) (.Call (.Name "zip" p) [e, e2, e3] [] pos) (iZip3 K ta) := by subst hK; exact pi_zip3T hg hm ha hs hpl
end
section
variable {W : Wd} {ρ : List Slot} {K : PySem.W.Frag} {P : Slot → Prop} {E : DE} {i j : Nat}
/-- a, b = ([..], [..]) by a tuple -/
theorem sd_asg2Own {te tf : TE} (h : EvF W te ρ fun ds => EvF W tf ρ fun es => E.nx ((ρ.set i (.seq .own ds)).set j (.seq .own es))) : SD W (tAsg (tTup (tCons te (tCons tf tNil))) (gTup K 2 (gCons (gName i) (gCons (gName j) gNil)))) ρ E := fun σ G H S D F =>
  h σ G H S _ fun p xs G2 H2 ds f hp gp h2 ra h' => h' σ G2 H2 (S.go f) _ fun p2 ys G3 H3 es f2 hp2 gp2 h3 ra2 k => by
    refine ⟨by show 2 ≤ sizeLine; decide, fun q hq => ?_⟩
    have S2 := (S.go f).go f2
    have f3 := W.newH (o := .tup [V.ref p, V.ref p2]) S2.cur hq
    have S3 := S2.go f3
    have nm : ¬ W.M p := W.nm S.cur hp
    have nm2 : ¬ W.M p2 := W.nm (S.go f).cur hp2
    have hp3 : H3 p = some (.lst xs) := f2.keep _ _ nm h2
    have gp3 : G3 p = none := f2.dom p (by rw [h2]; exact fun z => nomatch z) gp
    refine ⟨q, _, rfl, SqT.of upd_same, rfl, _, _, rfl, _, _, rfl, rfl, ?_⟩
    have fresh1 : ∀ (m : Nat) (md : Md) (fs : List DD), ρ[m]? = some (.seq md fs) → σ[m]? ≠ some (some (.ref p)) := fun m md fs hm hs => by
      obtain ⟨x, e1, l, ys, e2, e3, _⟩ := S.sl m _ hm (fun z => by cases z)
      rw [hs] at e1; cases e1; cases e2
      rw [hp] at e3; cases e3
    have S4 := S3.setOwn (i := i) (f3.keep _ _ nm hp3) (f3.dom p (by rw [hp3]; exact fun z => nomatch z) gp3) (S.cur.fr p hp) nm ((ra.mono f2.gg).mono f3.gg) fresh1
    refine F.nx _ G3 _ _ (S4.setOwn (i := j) (f3.keep _ _ nm2 h3) (f3.dom p2 (by rw [h3]; exact fun z => nomatch z) gp2) ((S.go f).cur.fr p2 hp2) nm2 (ra2.mono f3.gg) fun m md fs hm hs => ?_) (f.gg.trans (f2.gg.trans f3.gg)) k
    obtain ⟨x, e1, l, zs, e2, e3, _⟩ := (S4.sl m _ hm (fun z => by cases z))
    rw [hs] at e1; cases e1; cases e2
    by_cases him : i = m
    · subst him
      by_cases hlt : i < σ.length
      · rw [List.getElem?_set_self hlt] at hs
        cases hs
        rw [h2] at hp2; cases hp2
      · rw [List.getElem?_eq_none (by simpa using hlt)] at hs; cases hs
    · rw [List.getElem?_set_ne him] at hm hs
      obtain ⟨x, e1, l2, zs2, e2, e4, _⟩ := (S.go f).sl m _ hm (fun z => by cases z)
      rw [hs] at e1; cases e1; cases e2
      rw [hp2] at e4; cases e4
/-- return (a, b), lists of the def's own -/
theorem sd_ret2Own {ds es : List DD} (hij : i ≠ j) (hi : ρ[i]? = some (.seq .own ds)) (hj : ρ[j]? = some (.seq .own es)) (k : E.rt (.tup [.lst ds, .lst es])) : SD W (tRet (tTup (tCons (tVar i) (tCons (tVar j) tNil)))) ρ E := fun σ G H S D F => by
  obtain ⟨x, h1, l, xs, rfl, h2, h3, h4, h5, _, h6⟩ := S.sl i _ hi (fun z => by cases z)
  obtain ⟨y, k1, l2, ys, rfl, k2, k3, k4, k5, _, k6⟩ := S.sl j _ hj (fun z => by cases z)
  have ne : l2 ≠ l := fun z => by
    subst z
    exact S.ap i j .own ds es l2 hij hi hj h1 k1
  refine ⟨_, h1, _, k1, by show 2 ≤ sizeLine; decide, fun q hq => ?_⟩
  have f1 := S.cur.settle (p := l) (o := .lst xs) (h5 rfl) h3 h2
  have f2 := f1.settle (p := l2) (o := .lst ys) (k5 rfl) (by rw [upd_ne ne]; exact k3) k2
  have m1 : Same G (upd G l (.lst xs)) := fun a u e => by
    have : a ≠ l := fun z => by subst z; rw [h3] at e; cases e
    rw [upd_ne this]; exact e
  have m2 : Same (upd G l (.lst xs)) (upd (upd G l (.lst xs)) l2 (.lst ys)) := fun a u e => by
    have : a ≠ l2 := fun z => by subst z; rw [upd_ne ne, k3] at e; cases e
    rw [upd_ne this]; exact e
  have f3 := W.new (o := .tup [V.ref l, V.ref l2]) f2 hq
  refine F.rt _ _ _ _ (f2.trans f3) (Rp.tup upd_same (.cons ?_ (.cons ?_ .nil))) k
  · exact Rp.mono f3.gg (Rp.mono m2 (Rp.lst upd_same (h6.mono m1)))
  · exact Rp.mono f3.gg (Rp.lst upd_same ((k6.mono m1).mono m2))

/-! ### dicts with int keys -/
theorem evp_dget {td ty : TE} (h : EvP W td ρ fun s => ∃ kvs, s = .dat (.dK kvs) ∧ EvP W ty ρ fun t => ∃ i v : Int, t = .dat (.int i) ∧ valV kvs (.inl i) = some (.int v) ∧ P (.dat (.int v))) : EvP W (tDGet td ty) ρ P := fun σ G H S Q q =>
  h σ G H S _ fun x G1 H1 s f1 v1 ⟨kvs, e, h1⟩ => by
    subst e
    refine h1 σ G1 H1 (S.go f1) _ fun z G2 H2 t f2 v2 ⟨i, v, e, hv, pk⟩ => ?_
    subst e
    cases v2
    have v1 := v1.go f2
    cases v1 with
    | @dK a _ ha =>
      exact ⟨a, .int v, rfl, .inl ⟨kvs, .inl i, .inl (f2.gh _ _ ha), rfl, hv.symm⟩, q _ G2 H2 _ (f1.trans f2) (vd (Rp.int v)) pk⟩
/-- {k: v for .. in ..}, ints -/
theorem evp_dc1 {wi : TI} {g : TG} {tk tv : TE} {vs : List Nat} (h : WiP W wi ρ fun n y => n ≤ 50000 ∧ ∃ (f v : Nat → Int),
    (∀ i, i < n → GaP W g vs (.dat (y i)) (wipeS ρ vs) fun ρ2 => EvP W tk ρ2 fun s => s = .dat (.int (f i)) ∧ EvP W tv ρ2 fun t => t = .dat (.int (v i))) ∧
    P (.dat (.dK ((List.range n).foldl (fun acc i => putK acc (.inl (f i)) (.int (v i))) [])))) :
    EvP W (tDc wi g tYes tk tv vs) ρ P := fun σ G H S Q q =>
  h σ G H S _ fun J G1 H1 n y L f1 l1 w st ⟨hn, f, v, hs, hd⟩ D hD => by
    have S1 := S.go f1
    have gD : G1 D = none := fresh_g S1.cur.gh hD
    have mD : ¬ W.M D := W.nm S1.cur hD
    have len : ∀ i, ((List.range i).foldl (fun acc i => putK acc (.inl (f i)) (.int (v i))) ([] : List (Key × V))).length ≤ i := fun i => by
      induction i with
      | zero => simp
      | succ i ih =>
        rw [List.range_succ, List.foldl_append]
        have := length_putK ((List.range i).foldl (fun acc i => putK acc (.inl (f i)) (.int (v i))) ([] : List (Key × V))) (.inl (f i)) (V.int (v i))
        simp only [List.foldl_cons, List.foldl_nil]
        omega
    refine ⟨fun i m H' => m = n - i ∧ i ≤ n ∧ ∃ G', W.Go G1 H1 G' H' ∧ G' D = none ∧ H' D = some (.dK ((List.range i).foldl (fun acc i => putK acc (.inl (f i)) (.int (v i))) [])), ⟨n, by simp, Nat.zero_le _, G1, W.newH S1.cur hD, gD, upd_same⟩, ?_⟩
    rintro i m H' ⟨rfl, hi, G', f2, gD', hD'⟩
    have c2 := S1.cur.trans f2
    have l2 := st G1 H1 G' H' l1 f2
    by_cases hlt : i < n
    · refine .inr ⟨w.goes i G' H' hlt c2 l2, fun H2 => ∃ G2, W.Go G1 H1 G2 H2 ∧ G2 D = none ∧ H2 D = some (.dK ((List.range (i + 1)).foldl (fun acc i => putK acc (.inl (f i)) (.int (v i))) [])), fun H2 ⟨G2, z⟩ => ⟨n - (i + 1), by omega, rfl, hlt, G2, z⟩, fun x H2 yl => ?_⟩
      obtain ⟨G2, f3, rx⟩ := w.yields i G' H' x H2 hlt c2 l2 yl
      have S2 : St W G2 H2 (wipe σ vs) (wipeS ρ vs) := (S1.wipe vs).go (f2.trans f3)
      refine hs i hlt _ G2 H2 x S2 (vd rx) _ fun σ3 ρ3 S3 e3 h3 => ⟨wipe_eq (e3.1.trans (wipe_length _ _)) e3.2, ?_⟩
      refine iteT (B := False) ?_
      refine h3 σ3 G2 H2 S3 _ fun k G4 H4 s f4 v4 ⟨e, h4⟩ => ?_
      subst e; cases v4
      refine h4 σ3 G4 H4 (S3.go f4) _ fun z G5 H5 t f5 v5 e => ?_
      subst e; cases v5
      have nD : H' D ≠ none := by rw [hD']; exact fun z => nomatch z
      have f35 := (f3.trans f4).trans f5
      have hD5 := f35.keep D _ mD hD'
      have gD5 := f35.dom D nD gD'
      refine ⟨_, .inl (f i), rfl, hD5, sz_lt (Nat.lt_of_le_of_lt (len i) (by omega)), G5, Fr.mut (f2.trans f35) hD gD5 mD, gD5, ?_⟩
      rw [upd_same, List.range_succ, List.foldl_append]; rfl
    · have e : i = n := by omega
      subst e
      have f' := (f1.trans f2).settle (f1.fr D hD) gD' hD'
      exact .inl ⟨w.stops G' H' c2 l2, q _ _ _ _ f' (vd (Rp.dK upd_same)) hd⟩
end
end Dl

set_option Elab.async false
set_option linter.all false
set_option maxRecDepth 100000
set_option maxHeartbeats 1000000
namespace Dl
open PySem PySem.Spec PyProof.Rows L2
local macro_rules | `(tactic| wtm_at "d") => `(tactic| first
  | with_reducible refine sd_seq ?_ | with_reducible refine sd_if ?_ | with_reducible refine sd_ret ?_
  | with_reducible refine evp_op ?_ | with_reducible refine evp_un ?_ | with_reducible refine evp_cb ?_ | with_reducible refine evp_tupD ?_
  | with_reducible refine evp_andV ?_ | with_reducible refine evp_orV ?_ | with_reducible refine evp_notV ?_ | with_reducible refine evp_if ?_
  | with_reducible refine evt_test ?_ | with_reducible refine evt_B ?_ | with_reducible refine evt_and ?_ | with_reducible refine evt_or ?_ | with_reducible refine evt_not ?_
  | with_reducible refine eva_cons ?_ | with_reducible refine eva_nil ?_
  | with_reducible refine evp_int ?_ | with_reducible refine evp_str ?_ | with_reducible refine evp_bl ?_ | with_reducible refine evp_non ?_ | with_reducible refine evp_any ?_
  | (with_reducible refine evp_isv ?_; refine evp_dat rfl ?_)
  | with_reducible refine evp_callP ?_ | with_reducible refine evp_chain ?_
  | with_reducible refine sd_next ?_
  | with_reducible refine opp_add ?_ | with_reducible refine opp_sub ?_ | with_reducible refine opp_lt ?_ | with_reducible refine opp_le ?_ | with_reducible refine opp_gt ?_ | with_reducible refine opp_ge ?_
  | with_reducible refine opp_isN ?_ | with_reducible refine opp_notN ?_ | with_reducible refine unp_neg ?_
  | with_reducible refine ex_bl ?_ | with_reducible refine ex_dat ?_ | with_reducible refine ex_int ?_)
local macro_rules | `(tactic| wtm_at "e") => `(tactic| first | wtm_at "d" | with_reducible refine sd_set ?_)
variable {P : Program} {w : World} {K : PySem.W.Frag} {mg : Str → Option Value} {base : Heap} {A : Ads}
def kver (n : Nat) : List Key := [.inr ("version" : Str), .inl (n : Int)]
def kmrg (i : Nat) : List Key := [.inr ("merge" : Str), .inl (i : Int)]
def keyP (i : Nat) : Pl → List Key
  | .v n => kver n
  | .m _ _ _ => kmrg i
def keysP (pl : List Pl) : List (List Key) := (List.range pl.length).map fun i => keyP i (pl.getD i default)
abbrev Eld := List (List Key × V)
def eldV (n : Nat) : Eld := if 0 < n then [(kver 0, .bl true)] else []
def eldF (ks : List (List Key)) (es : List Eld) (j : Nat) : List (List Key) := ks.getD j [] :: (es.getD j []).map (·.1)
def EldOk (pl : List Pl) (es : List Eld) : Prop := es.length = pl.length ∧ (∀ e ∈ es, e.length ≤ 250) ∧ ∀ (i : Nat) (p : Pl), pl[i]? = some p → ∃ e : Eld, es[i]? = some e ∧ match p with
  | .v n => e = eldV n
  | .m b c y => b < i ∧ c < i ∧ y < i ∧ e = putAll [] (eldF (keysP pl) es b ++ (eldF (keysP pl) es c ++ eldF (keysP pl) es y))
theorem keysP_get {pl : List Pl} {i : Nat} {p : Pl} (h : pl[i]? = some p) : (keysP pl)[i]? = some (keyP i p) := by
  have hi : i < pl.length := (List.getElem?_eq_some_iff.mp h).1
  unfold keysP
  rw [List.getElem?_map, List.getElem?_range hi]
  show some (keyP i (pl.getD i default)) = _
  rw [List.getD_eq_getElem?_getD, h]; rfl
theorem keysP_len {pl : List Pl} : (keysP pl).length = pl.length := by simp [keysP]
abbrev c_elder_keys : List Slot → (DD → Prop) → Prop := fun ss R => ∃ pl es, ss = [.dat (.tup (List.map Pl.dd pl))] ∧ pl.length ≤ 1000 ∧ EldOk pl es ∧ R (.tup [.lst ((keysP pl).map keyD), .lst (es.map .dT)])
theorem ok_elder_keys (T : Txt K mg A) : FD P w K mg base CX0 1 A.elder_keys ["plan"] (spP c_elder_keys) := by
  obtain ⟨fd, F⟩ := T.F_elder_keys
  refine ⟨F.kp, fd, ?_, F.binds fun _ _ _ _ _ _ us hl => match us, hl with | [_], _ => rfl⟩
  refine fn_sd F sc_elder_keys no_mut no_mut2 ?len (by decide) fun cdv B outer s H E hr => ⟨_,
    (pss_cons (ps_asg (pe_tup (pa_cons (pe_lst pa_nil) (pa_cons (pe_lst pa_nil) pa_nil))) (pg_tup rfl (pgs_cons (pg_name (i := 1) sc_elder_keys.nd rfl (Or.inr rfl)) (pgs_cons (pg_name (i := 2) sc_elder_keys.nd rfl (Or.inr rfl)) pgs_nil))))
      (pss_cons (ps_for PassesOwn.never rfl (pi_enumK (K := K) rfl (by rfl) T.n_enumerate (pa_cons (pv 0) pa_nil)) (pg_tup rfl (pgs_cons (pg_name (i := 3) sc_elder_keys.nd rfl (Or.inl rfl)) (pgs_cons (pg_name (i := 4) sc_elder_keys.nd rfl (Or.inl rfl)) pgs_nil)))
      (pss_one (ps_if (pt_cmpR (r := rEqD K) (op_eqD hr.units) (pe_ix (r := rIx K) ix_seq (pv 4) pe_int (fun _ _ => rfl)) pe_str (nomark _))
      (pss_cons (ps_expr (pe_bm PySem.F.plainAttrs_list PySem.F.slot_list_append PySem.F.type_list_append mt_append (pv 1) (pa_cons (pe_tup (pa_cons pe_str (pa_cons (pe_ix (r := rIx K) ix_seq (pv 4) pe_int (fun _ _ => rfl)) pa_nil))) pa_nil)))
      (pss_one (ps_expr (pe_bm PySem.F.plainAttrs_list PySem.F.slot_list_append PySem.F.type_list_append mt_append (pv 2) (pa_cons (pe_ifExp (pt_cmpR op_gtI (pe_ix (r := rIx K) ix_seq (pv 4) pe_int (fun _ _ => rfl)) pe_int (nomark _)) (pe_disp1T hr.units0 (pe_tup (pa_cons pe_str (pa_cons pe_int pa_nil))) pe_bl) pe_dnewT) pa_nil)))))
      (pss_cons (ps_expr (pe_bm PySem.F.plainAttrs_list PySem.F.slot_list_append PySem.F.type_list_append mt_append (pv 1) (pa_cons (pe_tup (pa_cons pe_str (pa_cons (pv 3) pa_nil))) pa_nil)))
      (pss_one (ps_expr (pe_bm PySem.F.plainAttrs_list PySem.F.slot_list_append PySem.F.type_list_append mt_append (pv 2) (pa_cons (pe_dc2 (own := [("one", 5), ("key", 6)]) (g := (gName 5)) (g1 := (gName 6)) (vs1 := [6]) hr.units0 (by rfl) sc_elder_keys.nd (pi_seqK (K := K) rfl (pe_slice (r := rSlU K) sl_U (pv 4) (po_some pe_int) po_none)) (blkOk_by (own := [("one", 5), ("key", 6)]) (N := N_elder_keys) (sc := defScope s_elder_keys) (by decide +kernel)) (by decide) (fun _ _ _ _ _ => (pg_name (i := 5) sc_elder_keys.nd rfl (Or.inl rfl))) (fun _ _ _ _ _ => (pi_seqK (K := K) rfl (pe_op op_addU (pe_lst (pa_cons (pe_ix (r := rIx K) ix_seq (pv 1) (pv 5) (fun _ _ => rfl)) pa_nil)) (pe_callTy (T := "list") (r := cLsT) (call_cLsT rfl) (by rfl) T.n_list (by decide +kernel) (pa_cons (pe_ix (r := rIx K) ix_seq (pv 2) (pv 5) (fun _ _ => rfl)) pa_nil))))) (fun _ _ _ _ _ => (pg_name (i := 6) sc_elder_keys.nd rfl (Or.inl rfl))) (fun _ _ _ _ _ => (pv 6)) (fun _ _ _ _ _ => pe_bl)) pa_nil))))))))
      (pss_one (ps_ret (pe_tup (pa_cons (pv 1) (pa_cons (pv 2) pa_nil))))))), ?body⟩
  case len => intro ss R RE hc; (first | (obtain ⟨_, rfl, _⟩ := hc; rfl) | (obtain ⟨_, _, rfl, _⟩ := hc; rfl) | (obtain ⟨_, _, _, rfl, _⟩ := hc; rfl) | (obtain ⟨_, _, _, _, rfl, _⟩ := hc; rfl) | (obtain ⟨_, _, _, _, _, rfl, _⟩ := hc; rfl) | (obtain ⟨_, _, _, _, _, _, rfl, _⟩ := hc; rfl) | (obtain ⟨_, _, _, _, _, _, _, rfl, _⟩ := hc; rfl) | (obtain ⟨_, _, _, _, _, _, _, _, rfl, _⟩ := hc; rfl) | (obtain ⟨_, _, _, _, _, _, _, _, _, rfl, _⟩ := hc; rfl) | (obtain ⟨_, _, _, _, _, _, _, _, _, _, rfl, _⟩ := hc; rfl) | (obtain ⟨_, _, _, _, _, _, _, _, _, _, _, rfl, _⟩ := hc; rfl))
  case body =>
    rintro W ss R RE _ _ ⟨pl, es, rfl, hpl, ⟨hlen, hle, hok⟩, hR⟩
    refine sd_seq (sd_asg2Own (evf_lstD ?_))
    repeat (wtm_at "d")
    refine ⟨_, rfl, by decide, evf_lstD ?_⟩
    repeat (wtm_at "d")
    refine ⟨_, rfl, by decide, ?_⟩
    repeat (wtm_at "d")
    refine sd_for (vs := [3, 4]) (wfp_enum ?_)
    repeat (wtm_at "d")
    refine ⟨_, _, rfl, .tup _, fun i ρ => ∃ u0 u1 u2 u3, ρ = [.dat (.tup (List.map Pl.dd pl)), .seq .own (((keysP pl).take i).map keyD), .seq .own ((es.take i).map .dT), u0, u1, u2, u3], ⟨_, _, _, _, rfl⟩, fun i ρ hi hI => ?_, fun ρ hI => ?_⟩
    · obtain ⟨u0, u1, u2, u3, rfl⟩ := hI
      have hi : i < pl.length := by simpa using hi
      have hpi : pl[i]? = some pl[i] := List.getElem?_eq_getElem hi
      have hit : itemsOf (List.map Pl.dd pl) i = pl[i].dd := items_mapg hpi
      obtain ⟨e, he, hcase⟩ := hok i _ hpi
      have hk := keysP_get hpi
      generalize pl[i] = p at hcase hk hit
      have fin1 : ((keysP pl).take i).map keyD ++ [keyD (keyP i p)] = ((keysP pl).take (i + 1)).map keyD := by
        rw [List.take_add_one, hk, List.map_append]; rfl
      have fin2 : (es.take i).map DD.dT ++ [DD.dT e] = (es.take (i + 1)).map .dT := by
        rw [List.take_add_one, he, List.map_append]; rfl
      have hll : (((keysP pl).take i).map keyD).length < 100000 := by rw [List.length_map, List.length_take, keysP_len]; omega
      have hll2 : ((es.take i).map DD.dT).length < 100000 := by rw [List.length_map, List.length_take]; omega
      refine gap_tup rfl (gas_cons (gap_name (by decide) (gas_cons (gap_name (by decide) (gas_nil ?_)))))
      rw [hit]
      cases p with
      | v n =>
        have hcase : e = eldV n := hcase
        repeat (wtm_at "d")
        refine opp_ix (i := 0) (.tup _) rfl ?_
        repeat (wtm_at "d")
        refine opp_eq (n := 0) (by decide) (nn _) (nn _) (by decide +kernel) (by decide +kernel) fun q hq => ?_
        have hq : q = true := hq.mpr rfl
        subst hq
        refine ⟨_, rfl, fun _ => ?_, fun h => Bool.noConfusion h⟩
        repeat (wtm_at "d")
        refine sd_appE (((keysP pl).take (i + 1)).map keyD) rfl hll ?_
        repeat (wtm_at "d")
        refine opp_ix (i := 1) (.tup _) rfl ?_
        repeat (wtm_at "d")
        refine ⟨_, rfl, (show 2 ≤ 100000 by decide), ?_⟩
        repeat (wtm_at "d")
        refine ⟨fin1, ?_⟩
        refine sd_appE ((es.take (i + 1)).map .dT) rfl hll2 ?_
        repeat (wtm_at "d")
        refine opp_ix (i := 1) (.tup _) rfl ?_
        repeat (wtm_at "d")
        refine ⟨fun h => ?_, fun h => ?_⟩
        · have h0 : 0 < n := by have := of_decide_eq_true h; omega
          refine evp_disp1T ?_
          repeat (wtm_at "d")
          refine ⟨_, rfl, (show 2 ≤ 100000 by decide), kver 0, rfl, ?_⟩
          repeat (wtm_at "d")
          refine ⟨?_, _, _, _, _, rfl⟩
          rw [← fin2, hcase]
          unfold eldV
          rw [if_pos h0]
        · have h0 : ¬ 0 < n := by have := of_decide_eq_false h; omega
          refine evp_dnewT ?_
          repeat (wtm_at "d")
          refine ⟨?_, _, _, _, _, rfl⟩
          rw [← fin2, hcase]
          unfold eldV
          rw [if_neg h0]
      | m b c y =>
        obtain ⟨hb, hc, hy, hcase⟩ := hcase
        repeat (wtm_at "d")
        refine opp_ix (i := 0) (.tup _) rfl ?_
        repeat (wtm_at "d")
        refine opp_eq (n := 0) (by decide) (nn _) (nn _) (by decide +kernel) (by decide +kernel) fun q hq => ?_
        have hq : q = false := (bl_of_iff hq).2 mv_ne
        subst hq
        refine ⟨_, rfl, fun h => Bool.noConfusion h, fun _ => ?_⟩
        repeat (wtm_at "d")
        refine sd_appE (((keysP pl).take (i + 1)).map keyD) rfl hll ?_
        repeat (wtm_at "d")
        refine ⟨_, rfl, (show 2 ≤ 100000 by decide), ?_⟩
        repeat (wtm_at "d")
        refine ⟨fin1, ?_⟩
        refine sd_appE ((es.take (i + 1)).map .dT) rfl hll2 ?_
        repeat (wtm_at "d")
        have getK : ∀ {j : Nat}, j < i → ((keysP pl).take (i + 1))[j]? = some ((keysP pl).getD j []) := fun {j} hj => by
          rw [List.getElem?_take_of_lt (by omega), List.getD_eq_getElem?_getD, List.getElem?_eq_getElem (by rw [keysP_len]; omega)]; rfl
        have getE : ∀ {j : Nat}, j < i → (es.take i)[j]? = some (es.getD j []) := fun {j} hj => by
          rw [List.getElem?_take_of_lt hj, List.getD_eq_getElem?_getD, List.getElem?_eq_getElem (by omega)]; rfl
        have lenE : ∀ {j : Nat}, j < i → (es.getD j []).length ≤ 250 := fun {j} hj => by
          rw [List.getD_eq_getElem?_getD, List.getElem?_eq_getElem (by omega)]
          exact hle _ (List.getElem_mem (by omega))
        have nums : ∀ j, j < 3 → ∃ jj : Nat, [b, c, y].getD j 0 = jj ∧ jj < i ∧ itemsOf [.int (b : Int), .int (c : Int), .int (y : Int)] j = .int (jj : Int) := fun j hj => by
          match j, hj with
          | 0, _ => exact ⟨b, rfl, hb, rfl⟩
          | 1, _ => exact ⟨c, rfl, hc, rfl⟩
          | 2, _ => exact ⟨y, rfl, hy, rfl⟩
          | n + 3, h => exact absurd h (by omega)
        refine evp_dc2 (K := K) (show 6 < 7 by decide) (wip_seq (evp_fromS ?_))
        repeat (wtm_at "d")
        refine ⟨_, .tup _, evo_part ?_⟩
        wtm_at "d"
        refine ⟨_, rfl, 1, rfl, fun t ht _ => ⟨_, ht, fun j => eldF (keysP pl) es ([b, c, y].getD j 0), (show 3 * 900 ≤ 90000 by decide), fun j hj => ?_, fun j hj => gap_name (by decide) ?_, ?_⟩⟩
        · obtain ⟨jj, e1, e2, e3⟩ := nums j hj
          show (eldF (keysP pl) es ([b, c, y].getD j 0)).length ≤ 900
          rw [e1]
          unfold eldF
          rw [List.length_cons, List.length_map]
          have := lenE e2
          omega
        · obtain ⟨jj, e1, e2, e3⟩ := nums j hj
          refine inn_cat ?_
          refine evp_op ?_
          refine evp_var (s := .seq .own (((keysP pl).take (i + 1)).map keyD)) rfl (fun h => nomatch h) ?_
          refine evp_dat (d := .int (jj : Int)) (congrArg some (congrArg Slot.dat e3)) ?_
          refine opp_ixn (.seq _ _) (by rw [List.getElem?_map, getK e2]; rfl) ?_
          refine ⟨(keysP pl).getD jj [], rfl, ?_⟩
          refine evp_op ?_
          refine evp_var (s := .seq .own ((es.take i).map .dT)) rfl (fun h => nomatch h) ?_
          refine evp_dat (d := .int (jj : Int)) (congrArg some (congrArg Slot.dat e3)) ?_
          refine opp_ixn (.seq _ _) (by rw [List.getElem?_map, getE e2]; rfl) ?_
          refine ⟨es.getD jj [], rfl, ?_, by have := lenE e2; omega⟩
          show eldF (keysP pl) es ([b, c, y].getD j 0) = _
          rw [e1]; rfl
        · repeat (wtm_at "d")
          refine ⟨?_, _, _, _, _, rfl⟩
          rw [← fin2, hcase]
          have e : ((List.range (List.drop 1 (Pl.m b c y).stp.ds).length).map fun j => eldF (keysP pl) es ([b, c, y].getD j 0)).flatten = eldF (keysP pl) es b ++ (eldF (keysP pl) es c ++ eldF (keysP pl) es y) := by
            show eldF (keysP pl) es b ++ (eldF (keysP pl) es c ++ (eldF (keysP pl) es y ++ [])) = _
            rw [List.append_nil]
          rw [e]
    · obtain ⟨u0, u1, u2, u3, rfl⟩ := hI
      have e1 : (keysP pl).take (List.map Pl.dd pl).length = keysP pl := List.take_of_length_le (by rw [keysP_len]; simp)
      have e2 : es.take (List.map Pl.dd pl).length = es := List.take_of_length_le (by rw [hlen]; simp)
      rw [e1, e2]
      exact sd_ret2Own (i := 1) (j := 2) (by decide) rfl rfl hR
end Dl

set_option Elab.async false
set_option linter.all false
set_option maxRecDepth 100000
set_option maxHeartbeats 1000000
namespace Dl
open PySem PySem.Spec PyProof.Rows L2
local macro_rules | `(tactic| wtm_at "d") => `(tactic| first
  | with_reducible refine sd_seq ?_ | with_reducible refine sd_if ?_ | with_reducible refine sd_ret ?_
  | with_reducible refine evp_op ?_ | with_reducible refine evp_un ?_ | with_reducible refine evp_cb ?_ | with_reducible refine evp_tupD ?_
  | with_reducible refine evp_andV ?_ | with_reducible refine evp_orV ?_ | with_reducible refine evp_notV ?_ | with_reducible refine evp_if ?_
  | with_reducible refine evt_test ?_ | with_reducible refine evt_B ?_ | with_reducible refine evt_and ?_ | with_reducible refine evt_or ?_ | with_reducible refine evt_not ?_
  | with_reducible refine eva_cons ?_ | with_reducible refine eva_nil ?_
  | with_reducible refine evp_int ?_ | with_reducible refine evp_str ?_ | with_reducible refine evp_bl ?_ | with_reducible refine evp_non ?_ | with_reducible refine evp_any ?_
  | (with_reducible refine evp_isv ?_; refine evp_dat rfl ?_)
  | with_reducible refine evp_callP ?_ | with_reducible refine evp_chain ?_
  | with_reducible refine sd_next ?_
  | with_reducible refine opp_add ?_ | with_reducible refine opp_sub ?_ | with_reducible refine opp_lt ?_ | with_reducible refine opp_le ?_ | with_reducible refine opp_gt ?_ | with_reducible refine opp_ge ?_
  | with_reducible refine opp_isN ?_ | with_reducible refine opp_notN ?_ | with_reducible refine unp_neg ?_
  | with_reducible refine ex_bl ?_ | with_reducible refine ex_dat ?_ | with_reducible refine ex_int ?_)
local macro_rules | `(tactic| wtm_at "e") => `(tactic| first | wtm_at "d" | with_reducible refine sd_set ?_)
variable {P : Program} {w : World} {K : PySem.W.Frag} {mg : Str → Option Value} {base : Heap} {A : Ads}
def hasE (e : Eld) (k : List Key) : Bool := (valV e k).isSome
def kAt (pl : List Pl) (j : Nat) : List Key := (keysP pl).getD j []
def kin1 (pl : List Pl) (els : List Eld) (b c : Nat) : Bool := decide (kAt pl b = kAt pl c) || hasE (els.getD c []) (kAt pl b)
def okM (pl : List Pl) (els : List Eld) : Pl → Bool
  | .v _ => true
  | .m b c y => kin1 pl els b c && kin1 pl els b y
def faultAt (pl : List Pl) (els : List Eld) : Nat → List Pl → Option Nat
  | _, [] => none
  | i, p :: r => if okM pl els p then faultAt pl els (i + 1) r else some i
def optD : Option Nat → DD
  | none => .non
  | some i => .int (i : Int)
theorem kD_inj : ∀ {a b : Key}, kD a = kD b → a = b
  | .inl i, .inl j, h => by simpa [kD] using h
  | .inl i, .inr j, h => nomatch h
  | .inr i, .inl j, h => nomatch h
  | .inr i, .inr j, h => by simpa [kD] using h
theorem keyD_inj {a b : List Key} (h : keyD a = keyD b) : a = b := by
  have h : a.map kD = b.map kD := DD.tup.inj h
  exact List.map_inj_right (fun x y z => kD_inj z) |>.mp h
theorem pl_keyP (i : Nat) (p : Pl) : pl 1 (keyD (keyP i p)) = true := by
  cases p with
  | v n =>
    show (PyData.strOk ("version" : Str) && (true && true)) = true
    rw [show PyData.strOk ("version" : Str) = true by decide +kernel]; rfl
  | m b c y =>
    show (PyData.strOk ("merge" : Str) && (true && true)) = true
    rw [show PyData.strOk ("merge" : Str) = true by decide +kernel]; rfl
theorem kAt_get {pl : List Pl} {j : Nat} (h : j < pl.length) : (keysP pl)[j]? = some (kAt pl j) := by
  unfold kAt
  rw [List.getD_eq_getElem?_getD, List.getElem?_eq_getElem (by rw [keysP_len]; exact h)]; rfl
theorem pl_kAt {q : List Pl} {j : Nat} (h : j < q.length) : pl 1 (keyD (kAt q j)) = true := by
  have e := keysP_get (List.getElem?_eq_getElem h)
  rw [kAt_get h] at e
  rw [Option.some.inj e]
  exact pl_keyP _ _
abbrev c_elder_fault (A : Ads) : List Slot → (DD → Prop) → ErrP → Prop := fun ss R RE => ∃ mS s mk es sts, ss = [mS, s] ∧ kdS mS = some mk ∧ LeS s es ∧ StpAll es sts ∧ 1 ≤ sts.length ∧ sts.length ≤ 20 ∧
  (okMany (slotPy mS) = false → RE A.InvalidSize "word" (.str ("many" : Str))) ∧
  ∀ M : Int, slotPy mS = .int M → okMany (.int M) = true → (∀ at' : Nat, badAt M 0 sts = some at' → RE A.InvalidPlan "at" (.int (at' : Int))) ∧
    (badAt M 0 sts = none → ∃ pl els, sts = List.map Pl.stp pl ∧ EldOk pl els ∧ R (optD (faultAt pl els 0 pl)))
/-- .. the def's own object told -/
def FDF (x : Str) (st : Stmt) (P : Program) (w : World) (K : PySem.W.Frag) (mg : Str → Option Value) (base : Heap) (CX : CXT) (k : Nat) (f : Addr) (ps : List Str) (sp : Sp) : Prop := PySem.W.keepIn K (.ref f) = true ∧ ∃ fd, Fun K x x st f fd ∧ FnOk P w K mg base CX k f fd ps sp ∧ L2.Binds K fd ps []
theorem FDF.fd {x : Str} {st : Stmt} {P : Program} {w : World} {K : PySem.W.Frag} {mg : Str → Option Value} {base : Heap} {CX : CXT} {k : Nat} {f : Addr} {ps : List Str} {sp : Sp} (h : FDF x st P w K mg base CX k f ps sp) : FD P w K mg base CX k f ps sp := ⟨h.1, let ⟨fd, _, h1, h2⟩ := h.2; ⟨fd, h1, h2⟩⟩
theorem okF_elder_fault (T : Txe P K mg A) : FDF "elder_fault" s_elder_fault P w K mg base (L2.CX P w) 6 A.elder_fault ["many", "plan"] (spE NoM AnyJ (c_elder_fault A)) := by
  obtain ⟨fd, F⟩ := T.F_elder_fault
  obtain ⟨k_need_plan, fd_need_plan, G_need_plan, B_need_plan⟩ := ok_need_plan (P := P) (w := w) (base := base) T
  obtain ⟨k_elder_keys, fd_elder_keys, G_elder_keys, B_elder_keys⟩ := ok_elder_keys (P := P) (w := w) (base := base) T.toTxt
  refine ⟨F.kp, fd, F, ?_, F.binds fun _ _ _ _ _ _ us hl => match us, hl with | [_, _], _ => rfl⟩
  refine fn_sdX F sc_elder_fault no_mut no_mut2 ?len (by decide) fun cdv B outer s H E hr => ⟨_,
    (pss_cons (ps_set (i := 1) sc_elder_fault.nd rfl (Or.inl rfl) (pe_call G_need_plan (hr.mono (by decide)) (by rfl) T.g_need_plan k_need_plan B_need_plan .nil (passes_call (takes_of rfl rfl rfl rfl) (fun _ _ _ _ h => h)) (pa_cons (pv 0) (pa_cons (pv 1) pa_nil))))
      (pss_cons (ps_asg (pe_call G_elder_keys (hr.mono (by decide)) (by rfl) T.g_elder_keys k_elder_keys B_elder_keys .nil pass0 (pa_cons (pv 1) pa_nil)) (pg_tup rfl (pgs_cons (pg_name (i := 2) sc_elder_fault.nd rfl (Or.inr rfl)) (pgs_cons (pg_name (i := 3) sc_elder_fault.nd rfl (Or.inr rfl)) pgs_nil))))
      (pss_cons (ps_for (passes_of rfl) rfl (pi_enumK (K := K) rfl (by rfl) T.n_enumerate (pa_cons (pv 1) pa_nil)) (pg_tup rfl (pgs_cons (pg_name (i := 4) sc_elder_fault.nd rfl (Or.inl rfl)) (pgs_cons (pg_name (i := 5) sc_elder_fault.nd rfl (Or.inl rfl)) pgs_nil)))
      (pss_one (ps_if (pt_cmpR (r := rEqD K) (op_eqD hr.units) (pe_ix (r := rIx K) ix_seq (pv 5) pe_int (fun _ _ => rfl)) pe_str (nomark _))
      (pss_cons (ps_set (i := 6) sc_elder_fault.nd rfl (Or.inr rfl) (pe_ix (r := rIx K) ix_seq (pv 2) (pe_ix (r := rIx K) ix_seq (pv 5) pe_int (fun _ _ => rfl)) (fun _ _ => rfl)))
      (pss_one (ps_if (pt_not (pt_val (pe_callB (r := rAll K) (cr_all rfl) (by rfl) T.n_all (by decide +kernel) (pa_cons (pe_lc (own := [("one", 7)]) (g := (gName 7)) (by rfl) sc_elder_fault.nd (pi_seqK (K := K) rfl (pe_slice (r := rSlU K) sl_U (pv 5) (po_some pe_int) po_none)) (blkOk_by (own := [("one", 7)]) (N := N_elder_fault) (sc := defScope s_elder_fault) (by decide +kernel)) (fun _ _ _ _ _ => (pg_name (i := 7) sc_elder_fault.nd rfl (Or.inl rfl))) (fun _ _ _ _ _ => pts_nil) (fun _ _ _ _ _ => (pe_or (pe_cmpR (r := rEqD K) (op_eqD hr.units) (pv 6) (pe_ix (r := rIx K) ix_seq (pv 2) (pv 7) (fun _ _ => rfl)) (nomark _)) (pe_one (pe_cmp (pc_din (hu_of hr) (pv 6) (pe_ix (r := rIx K) ix_seq (pv 3) (pv 7) (fun _ _ => rfl))) (by rfl)))))) pa_nil))))
      (pss_one (ps_ret (pv 4)))
      pss_nil)))
      pss_nil)))
      (pss_one (ps_ret pe_non))))), ?body⟩
  case len => intro ss R RE hc; (first | (obtain ⟨_, rfl, _⟩ := hc; rfl) | (obtain ⟨_, _, rfl, _⟩ := hc; rfl) | (obtain ⟨_, _, _, rfl, _⟩ := hc; rfl) | (obtain ⟨_, _, _, _, rfl, _⟩ := hc; rfl) | (obtain ⟨_, _, _, _, _, rfl, _⟩ := hc; rfl) | (obtain ⟨_, _, _, _, _, _, rfl, _⟩ := hc; rfl) | (obtain ⟨_, _, _, _, _, _, _, rfl, _⟩ := hc; rfl) | (obtain ⟨_, _, _, _, _, _, _, _, rfl, _⟩ := hc; rfl) | (obtain ⟨_, _, _, _, _, _, _, _, _, rfl, _⟩ := hc; rfl) | (obtain ⟨_, _, _, _, _, _, _, _, _, _, rfl, _⟩ := hc; rfl) | (obtain ⟨_, _, _, _, _, _, _, _, _, _, _, rfl, _⟩ := hc; rfl))
  case body =>
    rintro W ss R RE _ _ ⟨mS, s, mk, es, sts, rfl, hk, hs, ha, h1, h20, hbad, hgood⟩ hE
    obtain ⟨ks, hks, hsq⟩ := kd_seq (le_seq hs)
    repeat (wtm_at "e")
    refine evp_call RE hE ?_
    repeat (wtm_at "d")
    refine evp_arg rfl hk ?_
    repeat (wtm_at "d")
    refine evp_seq rfl (le_seq hs) ?_
    repeat (wtm_at "d")
    have oka : okArgs [lend mS, lend s] = true := by
      have e1 := ok1 hk
      have e2 := ok1 hks
      simp only [okArgs, List.all_cons, List.all_nil, Bool.and_true] at e1 e2 ⊢
      rw [e1, e2]; rfl
    refine ⟨oka, _, _, mk, es, sts, rfl, kd_al hk, le_arg (le_lend hs), ha, h1, h20, fun h => hbad (by rw [← h, py_arg]), fun M hM ho => ?_⟩
    rw [py_arg] at hM
    obtain ⟨hg1, hg2⟩ := hgood M hM ho
    refine ⟨fun hn => ?_, fun at' h => hg1 at' h⟩
    obtain ⟨pl, els, rfl, hel, hR⟩ := hg2 hn
    obtain ⟨hlen, hle, hok⟩ := id hel
    have hpl : pl.length ≤ 20 := by simpa using h20
    have edd : (List.map (fun st => DD.tup st.ds) (List.map Pl.stp pl)) = List.map Pl.dd pl := by rw [List.map_map]; rfl
    rw [edd]
    repeat (wtm_at "d")
    refine sd_asgT (vs := [2, 3]) ?_
    repeat (wtm_at "d")
    refine ⟨rfl, pl, els, rfl, by omega, hel, ?_⟩
    refine gap_tup rfl (gas_cons (gap_name (by decide) (gas_cons (gap_name (by decide) (gas_nil ?_)))))
    repeat (wtm_at "d")
    refine sd_for (vs := [4, 5]) (wfp_enum ?_)
    repeat (wtm_at "d")
    refine ⟨_, _, rfl, .tup _, fun i ρ => ∃ u0 u1 u2 u3, ρ = [mS, .dat (.tup (List.map Pl.dd pl)), .dat (.lst ((keysP pl).map keyD)), .dat (.lst (els.map .dT)), u0, u1, u2, u3] ∧ faultAt pl els 0 pl = faultAt pl els i (pl.drop i), ⟨_, _, _, _, rfl, rfl⟩, fun i ρ hi hI => ?_, fun ρ hI => ?_⟩
    · obtain ⟨u0, u1, u2, u3, rfl, hfl⟩ := hI
      have hi : i < pl.length := by simpa using hi
      have hpi : pl[i]? = some pl[i] := List.getElem?_eq_getElem hi
      have hit : itemsOf (List.map Pl.dd pl) i = pl[i].dd := items_mapg hpi
      obtain ⟨e, he, hcase⟩ := hok i _ hpi
      have hdr : pl.drop i = pl[i] :: pl.drop (i + 1) := List.drop_eq_getElem_cons hi
      rw [hdr] at hfl
      generalize pl[i] = p at hcase hit hfl
      refine gap_tup rfl (gas_cons (gap_name (by decide) (gas_cons (gap_name (by decide) (gas_nil ?_)))))
      rw [hit]
      cases p with
      | v n =>
        repeat (wtm_at "d")
        refine opp_ix (i := 0) (.tup _) rfl ?_
        repeat (wtm_at "d")
        refine opp_eq (n := 0) (by decide) (nn _) (nn _) (by decide +kernel) (by decide +kernel) fun q hq => ?_
        have hq : q = false := (bl_of_iff hq).2 vm_ne
        subst hq
        refine ⟨_, rfl, fun h => Bool.noConfusion h, fun _ => ?_⟩
        repeat (wtm_at "d")
        exact ⟨_, _, _, _, rfl, hfl⟩
      | m b c y =>
        obtain ⟨hb, hc, hy, _⟩ := hcase
        repeat (wtm_at "d")
        refine opp_ix (i := 0) (.tup _) rfl ?_
        repeat (wtm_at "d")
        refine opp_eq (n := 0) (by decide) (nn _) (nn _) (by decide +kernel) (by decide +kernel) fun q hq => ?_
        have hq : q = true := hq.mpr rfl
        subst hq
        refine ⟨_, rfl, fun _ => ?_, fun h => Bool.noConfusion h⟩
        have getK : ∀ {j : Nat}, j < i → ((keysP pl).map keyD)[j]? = some (keyD (kAt pl j)) := fun hj => by rw [List.getElem?_map, kAt_get (by omega)]; rfl
        have getE : ∀ {j : Nat}, j < i → (els.map DD.dT)[j]? = some (.dT (els.getD j [])) := fun {j} hj => by
          rw [List.getElem?_map, List.getD_eq_getElem?_getD, List.getElem?_eq_getElem (by omega)]; rfl
        repeat (wtm_at "e")
        refine opp_ix (i := 1) (.tup _) rfl ?_
        refine opp_ixn (.lst _) (getK hb) ?_
        repeat (wtm_at "d")
        refine evp_new (evf_map (wip_seq (evp_fromS ?_)))
        repeat (wtm_at "d")
        refine ⟨_, .tup _, evo_part ?_⟩
        wtm_at "d"
        refine ⟨_, rfl, 2, rfl, fun t ht _ => ⟨_, ht, (show 2 ≤ 50000 by decide), fun j => .bl (kin1 pl els b ([c, y].getD j 0)), fun j hj => gap_name (by decide) ?_, ?_⟩⟩
        · obtain ⟨jj, e1, e2, e3⟩ : ∃ jj : Nat, [c, y].getD j 0 = jj ∧ jj < i ∧ itemsOf [.int (c : Int), .int (y : Int)] j = .int (jj : Int) := by
            have hj : j < 2 := hj
            match j, hj with
            | 0, _ => exact ⟨c, rfl, hc, rfl⟩
            | 1, _ => exact ⟨y, rfl, hy, rfl⟩
            | n + 2, h => exact absurd h (by omega)
          show EvP W _ _ fun s => s = .dat (.bl (kin1 pl els b ([c, y].getD j 0)))
          rw [e1]
          repeat (wtm_at "d")
          show OpP W _ _ (.dat (itemsOf [.int (c : Int), .int (y : Int)] j)) _
          rw [e3]
          refine opp_ixn (.lst _) (getK e2) ?_
          refine opp_eq (n := 1) (by decide) (nn _) (nn _) (pl_kAt (by omega)) (pl_kAt (by omega)) fun q hq => ?_
          have hq : q = true ↔ kAt pl b = kAt pl jj := hq.trans ⟨fun z => keyD_inj z, fun z => congrArg keyD z⟩
          refine ⟨q, rfl, fun h => ?_, fun h => ?_⟩
          · unfold kin1
            rw [decide_eq_true (hq.mp h)]; rfl
          · refine evp_din ?_
            repeat (wtm_at "d")
            refine ⟨_, rfl, ?_⟩
            repeat (wtm_at "d")
            show OpP W _ _ (.dat (itemsOf [.int (c : Int), .int (y : Int)] j)) _
            rw [e3]
            refine opp_ixn (.lst _) (getE e2) ?_
            refine ⟨_, rfl, ?_⟩
            unfold kin1
            rw [decide_eq_false (fun z => by rw [hq.mpr z] at h; cases h)]; rfl
        · repeat (wtm_at "d")
          refine cap_allR (n := 2) (f := fun j => kin1 pl els b ([c, y].getD j 0)) ?_
          have eall : ((List.range 2).all fun j => kin1 pl els b ([c, y].getD j 0)) = okM pl els (.m b c y) := by
            show (kin1 pl els b c && (kin1 pl els b y && true)) = _
            rw [Bool.and_true]; rfl
          rw [eall]
          repeat (wtm_at "d")
          refine ⟨fun h => ?_, fun h => ?_⟩
          · repeat (wtm_at "d")
            have h : okM pl els (.m b c y) = false := by cases e : okM pl els (.m b c y) <;> simp_all
            have e : faultAt pl els 0 pl = some i := by
              rw [hfl]
              show (if okM pl els (.m b c y) = true then _ else some i) = some i
              rw [h]; rfl
            rw [e] at hR
            exact hR
          · repeat (wtm_at "d")
            have h : okM pl els (.m b c y) = true := by cases e : okM pl els (.m b c y) <;> simp_all
            refine ⟨_, _, _, _, rfl, ?_⟩
            rw [hfl]
            show (if okM pl els (.m b c y) = true then _ else some i) = _
            rw [h]; rfl
    · obtain ⟨u0, u1, u2, u3, rfl, hfl⟩ := hI
      have e : pl.drop (List.map Pl.dd pl).length = [] := List.drop_eq_nil_of_le (by simp)
      rw [e] at hfl
      rw [show faultAt pl els 0 pl = none from hfl] at hR
      show SD W _ _ _
      repeat (wtm_at "d")
      exact hR
theorem ok_elder_fault (T : Txe P K mg A) : FD P w K mg base (L2.CX P w) 6 A.elder_fault ["many", "plan"] (spE NoM AnyJ (c_elder_fault A)) := (okF_elder_fault T).fd
end Dl

set_option Elab.async false
set_option linter.all false
set_option maxRecDepth 100000
set_option maxHeartbeats 1000000
/-! R4: sum over a tuple of ints; set(list of ints). -/
namespace Dl
open PySem PySem.Spec PyProof.Rows L2
section
variable {prog : Program} {w : World} {A : Around} {E : Value → Shared → Prop} {s : Shared}
theorem sum_tupI {l : Addr} {xs : Array (Int × Tok)} {Q : Value → Shared → Prop} (hh : A.handled = none) (hl : s.heap.IsTuple l (intItems xs))
    (h : ∀ h' tk t', (∀ b o, s.heap.get? b = some o → h'.get? b = some o) → Q (.int (preSum (numAt xs) xs.size) t') { s with heap := h', toks := tk }) :
    wpAny (model prog w) A (call (.builtin "sum") [.ref l]) Q E s := by
  have hlt : l < s.heap.objs.size := by obtain ⟨_, e, _⟩ := hl; exact Heap.lt_size e
  refine call_sum_walkG (wpAny_pyIter_tuple hl ?_)
  refine ⟨_, _, _, _, _, _, numAt xs, rfl, Walks.tuple (A := A.in1) hh _ l (Nat.ne_of_lt hlt) (intItems xs), ⟨⟨_, Heap.get?_push_size _ rfl, rfl, rfl⟩, hl.push _⟩, fun b hb => ?_, (fun _ _ => intItems_at), fun h' tk t' hk => ?_⟩
  · show b < (s.heap.push _).objs.size
    rw [Heap.size_push]
    rcases List.mem_cons.mp hb with rfl | hb
    · exact Nat.lt_succ_self _
    · rcases List.mem_cons.mp hb with rfl | hb
      · exact Nat.lt_succ_of_lt hlt
      · cases hb
  · have := h h' tk t' fun b o e => by
      refine hk b o (fun hm => ?_) (Heap.get?_push_of_some _ e)
      rcases List.mem_cons.mp hm with e1 | hm
      · exact absurd (e1 ▸ Heap.lt_size e) (Nat.lt_irrefl _)
      · cases hm
    simpa [intItems] using this
theorem sum_rawT {l : Addr} {its : List Value} {ns : List Int} {Q : Value → Shared → Prop} (hh : A.handled = none) (hl : s.heap.IsTuple l its.toArray) (hi : IntsAre its ns)
    (h : ∀ h' tk t', (∀ b o, s.heap.get? b = some o → h'.get? b = some o) → Q (.int ns.sum t') { s with heap := h', toks := tk }) : wpAny (model prog w) A (call (.builtin "sum") [.ref l]) Q E s := by
  obtain ⟨xs, e⟩ := hi.allInts.items
  have hn : numsOf (intItems xs).toList = ns := by rw [← e]; exact hi.numsOf
  rw [nums_intItems] at hn
  rw [e] at hl
  refine sum_tupI hh hl fun h' tk t' hk => ?_
  have := h h' tk t' hk
  rw [preSum_eq, List.take_of_length_le (by simp), hn]; exact this
set_option maxHeartbeats 3200000 in
theorem set_listI {l : Addr} {items : Array Value} (ns : List Int) {Q : Value → Shared → Prop} (hh : A.handled = none) (hl : s.heap.IsList l items) (hit : IntsAre items.toList ns) (hb : ns.length + 1 < scanBound)
    (h : ∀ (h' : Heap) (tk c : Nat), SetR w h' s.heap.objs.size (fun j => decide (j ∈ ns)) c → c ≤ ns.length → (∀ b o, s.heap.get? b = some o → h'.get? b = some o) → Q (.ref s.heap.objs.size) { s with heap := h', toks := tk }) :
    wpAny (model P w) A (call (.type "set") [.ref l]) Q E s := by
  have hisz : items.size = ns.length := by
    have q := IntsAre.length hit
    rw [Array.length_toList] at q
    exact q
  obtain ⟨c, tl, hmro⟩ := F.called_set.mro
  have hmade := F.called_set.made
  have hsub := F.called_set.sub
  refine wpAny_call (codeAny_of_tree ?_)
  show wpAny _ _ (callAny (.type "set") _) _ _ _
  refine wpAny_pure ⟨Code.quiet_builtin _ (by decide +kernel), codeAny_builtin F.entry_type_call ?_⟩
  rw [Around.under_plain (weight_type_call_type "set" [.ref l] []) rfl]
  have h1 := F.called_set.notType
  have h2 := F.called_set.canCreate
  have hct := F.typeCall_set_1 (.ref l)
  repeat (any_goals (first | assumption | wp_step))

  refine codeAny_mono (code_set_led1 (.ref l) (E := E) (Q₁ := fun obj s₁ => obj = .ref s.heap.objs.size ∧ s₁ = { s with heap := s.heap.push { cls := .type "set", dict := none, data := .set #[] 0 (.fresh 0 0 (!w.params.followText "set-order")) } }) ⟨rfl, rfl⟩) fun r s₁ hr => ?_
  cases r with
  | error e => exact hr
  | ok fl =>
    cases fl with
    | ret obj =>
      obtain ⟨rfl, rfl⟩ := hr
      have hS : (s.heap.push { cls := .type "set", dict := none, data := .set #[] 0 (.fresh 0 0 (!w.params.followText "set-order")) }).get? s.heap.objs.size = some { cls := .type "set", dict := none, data := .set #[] 0 (.fresh 0 0 (!w.params.followText "set-order")) } := Heap.get?_push_size _ rfl
      have hT : Shared.TypeIs { s with heap := s.heap.push { cls := .type "set", dict := none, data := .set #[] 0 (.fresh 0 0 (!w.params.followText "set-order")) } } (.ref s.heap.objs.size) "set" := ⟨_, hS, rfl⟩
      have hli := F.called_set.init.lookup
      have hbi := F.called_set.init.bind (.ref s.heap.objs.size)
      repeat (any_goals (first | assumption | wp_step))

      refine codeAny_mono (codeAny_call_builtin (R := wants (fun r s₂ => r = .none ∧ ∃ h' tk c, s₂ = { s with heap := h', toks := tk } ∧ SetR w h' s.heap.objs.size (fun j => decide (j ∈ ns)) c ∧ c ≤ ns.length ∧
          (∀ b o, s.heap.get? b = some o → h'.get? b = some o)) E) F.called_set.init.plain F.entry_set_init (check_set_init_1 hT ?_)) fun r₂ s₂ hr₂ => ?_
      · obtain ⟨ol, hol, hcl, nl, hdl⟩ := hl
        obtain ⟨ocls, odict, odata, oslots⟩ := ol
        simp only at hcl hdl
        subst hcl; subst hdl
        have hol' : (s.heap.push { cls := .type "set", dict := none, data := .set #[] 0 (.fresh 0 0 (!w.params.followText "set-order")) }).get? l = some { cls := .type "list", dict := odict, data := .seq items nl, slots := oslots } := Heap.get?_push_of_some _ hol
        have hsls := F.sub_list_set
        have hslf := F.sub_list_frozenset
        have hne : (Value.type "list" == Value.type "dict") = false := by decide
        have hl1 : (s.heap.push { cls := .type "set", dict := none, data := .set #[] 0 (.fresh 0 0 (!w.params.followText "set-order")) }).IsList l items := ⟨_, hol', rfl, nl, rfl⟩
        unfold Builtin.«set.__init__» noKeywords Builtin.Frozenset.updateFrom
        generalize hPI : pyIter = PI
        wp_walk
        subst hPI

        refine wpAny_pyIter_list hl1 ?_
        refine wpAny_bind (wpAny_runValue ?_)
        have hlS : l < s.heap.objs.size := Heap.lt_size hol
        have hh3 : A.in1.in1.in1.handled = none := by simp [hh]
        have hz1 : (s.heap.push { cls := .type "set", dict := none, data := .set #[] 0 (.fresh 0 0 (!w.params.followText "set-order")) }).objs.size = s.heap.objs.size + 1 := Heap.size_push ..
        have hneI : l ≠ (s.heap.push { cls := .type "set", dict := none, data := .set #[] 0 (.fresh 0 0 (!w.params.followText "set-order")) }).objs.size := by
          rw [Heap.size_push]; exact Nat.ne_of_lt (Nat.lt_succ_of_lt hlS)
        have hSf : s.heap.objs.size ∉ [(s.heap.push { cls := .type "set", dict := none, data := .set #[] 0 (.fresh 0 0 (!w.params.followText "set-order")) }).objs.size, l] := by
          rw [Heap.size_push]; simp only [List.mem_cons, List.mem_singleton, List.not_mem_nil, or_false, not_or]
          exact ⟨Nat.ne_of_lt (Nat.lt_succ_self _), Nat.ne_of_gt hlS⟩
        have hval : ∀ (i : Nat) (v : Value), items[i]? = some v → ∃ k t, ns[i]? = some k ∧ v = .int k t := fun i v hv => by
          have hi : i < ns.length := by rw [← hisz]; exact (Array.getElem?_eq_some_iff.mp hv).1
          obtain ⟨t, e⟩ := PyProof.Rows.IntsAre.int_at hit i v (by rw [Array.getElem?_toList]; exact hv)
          refine ⟨ns[i], t, List.getElem?_eq_getElem hi, ?_⟩
          rw [e, List.getD_eq_getElem?_getD, List.getElem?_eq_getElem hi] <;> rfl
        refine set_update_ints ((Walks.list hh3 _ l hneI items).toS) s.heap.objs.size
          hSf ns hisz hb hval (items.size - 0) 0 _ (by omega) (Nat.zero_le _)
          ⟨⟨_, Heap.get?_push_size _ rfl, rfl, rfl⟩, (hl1.push _)⟩ ?hS0 ?hR
        case hS0 =>
          have hget : ((s.heap.push { cls := .type "set", dict := none, data := .set #[] 0 (.fresh 0 0 (!w.params.followText "set-order")) }).push { cls := .type "list_iterator", data := .fields #[.ref l, .int 0 0] }).get? s.heap.objs.size
              = some { cls := .type "set", dict := none, data := .set #[] 0 (.fresh 0 0 (!w.params.followText "set-order")) } := Heap.get?_push_of_some _ hS
          exact ⟨0, Nat.le_refl 0, setR_new_at hget⟩
        case hR =>
          intro s' c' hm hc' hS'
          obtain ⟨h', g2, d', tk', os'⟩ := s'
          have eg : g2 = s.gens := hm.gens
          have ed : d' = s.drawn := hm.drawn
          have eo : os' = s.os := hm.os
          subst eg; subst ed; subst eo
          show wpAny _ _ _ _ _ _
          refine wpAny_pure ?_
          show wpAny _ _ (ret Value.none) _ _ _
          rw [hisz] at hc'
          refine wpAny_pure ⟨rfl, h', tk', c', rfl, hS', hc', fun b o e => ?_⟩
          have hb0 : b < s.heap.objs.size := Heap.lt_size e
          have hb1 : b ≠ s.heap.objs.size := Nat.ne_of_lt hb0
          have hb2 : b ≠ (s.heap.push { cls := .type "set", dict := none, data := .set #[] 0 (.fresh 0 0 (!w.params.followText "set-order")) }).objs.size := by
            rw [Heap.size_push]; exact Nat.ne_of_lt (Nat.lt_succ_of_lt hb0)
          exact hm.heap b o (by simp only [List.mem_cons, List.mem_singleton, List.not_mem_nil, or_false, not_or]; exact ⟨hb1, hb2⟩) (Heap.get?_push_of_some _ (Heap.get?_push_of_some _ e))

      · cases r₂ with
        | error e => exact hr₂
        | ok fl₂ =>
          cases fl₂ with
          | ret r =>
            obtain ⟨rfl, h', tk, c', rfl, hS', hc', hk'⟩ := hr₂
            repeat (any_goals (first | assumption | wp_step))
            exact h _ _ _ hS' hc' hk'
          | _ => exact hr₂.elim
    | _ => exact hr.elim

end
section
variable {X : Cx}
/-- sum(xs), a list or a tuple of ints -/
def rSumU (K : PySem.W.Frag) : List V → Hp → VK → Prop := fun vs H Q => ∃ (a : Addr) (ns : List Int), vs = [V.ref a] ∧ (SqL K H a (ns.map V.int) ∨ SqT K H a (ns.map V.int)) ∧ Q (.int ns.sum) H
theorem cr_sumU (hc : X.calm = true) : CallR X (.builtin "sum") (rSumU X.K) := by
  intro pins s σ H vs us Q I r h
  obtain ⟨a, ns, rfl, hs, q⟩ := h
  rw [Vals.ref1 r]
  rcases hs with hs | hs
  · obtain ⟨its, rv, hl, _⟩ := I.list hs
    exact sum_raw (I.ok.hd hc) hl.isList rv.ints fun h' tk t' hk => ⟨.int _, H, I.kept hk, ⟨_, rfl⟩, q⟩
  · obtain ⟨its, rv, hl, _⟩ := I.tuple hs
    exact sum_rawT (I.ok.hd hc) hl rv.ints fun h' tk t' hk => ⟨.int _, H, I.kept hk, ⟨_, rfl⟩, q⟩
/-- set(xs), a list of ints -/
def rSetL (K : PySem.W.Frag) (w : World) : List V → Hp → VK → Prop := fun vs H Q => ∃ (a : Addr) (ns : List Int), vs = [V.ref a] ∧ SqL K H a (ns.map V.int) ∧ ns.length + 1 < scanBound ∧
  ∀ (p : Addr) (c : Nat), H p = none → c ≤ ns.length → Q (.ref p) (upd H p (SetO w p (fun j => decide (j ∈ ns)) c))
theorem cr_setL (hc : X.calm = true) : CallR X (.type "set") (rSetL X.K X.w) := by
  intro pins s σ H vs us Q I r h
  obtain ⟨a, ns, rfl, hs, hb, q⟩ := h
  rw [Vals.ref1 r]
  obtain ⟨its, rv, hl, _⟩ := I.list hs
  refine set_listI ns (I.ok.hd hc) hl.isList (by simpa using rv.ints) hb fun h' tk c hS hc' hk => ?_
  have hn : H s.heap.objs.size = none := I.hok.fresh (Nat.le_refl _)
  exact ⟨.ref _, _, I.laid (t' := tk) hk (Nat.le_refl _) (setO_new hS), rfl, q _ c hn hc'⟩
end
end Dl

set_option Elab.async false
set_option linter.all false
set_option maxRecDepth 100000
set_option maxHeartbeats 1000000
/-! D12: two fors in a list comprehension; sum of a sequence; sorted(set(list)). -/
namespace Dl
open PySem PySem.Spec PyProof.Rows L2
def NoOwn (ρ : List Slot) : Prop := ∀ m ds, Slot.seq m ds ∈ ρ → m = .lent
theorem noOwn_nil : NoOwn [] := fun _ _ h => by cases h
theorem noOwn_dat {d : DD} {ρ : List Slot} (h : NoOwn ρ) : NoOwn (.dat d :: ρ) := fun m ds k => by
  rcases List.mem_cons.mp k with k | k
  · cases k
  · exact h m ds k
theorem noOwn_no {ρ : List Slot} (h : NoOwn ρ) : NoOwn (.no :: ρ) := fun m ds k => by
  rcases List.mem_cons.mp k with k | k
  · cases k
  · exact h m ds k
theorem noOwn_le {s : Slot} {es : List DD} {ρ : List Slot} (hs : LeS s es) (h : NoOwn ρ) : NoOwn (s :: ρ) := fun m ds k => by
  rcases List.mem_cons.mp k with k | k
  · subst k; cases hs; rfl
  · exact h m ds k
theorem St.off {W : Wd} {G H G' H' : Hp} {σ : L2.St} {ρ : List Slot} (S : St W G H σ ρ) (n : NoOwn ρ) (c : W.Cur G' H') (g : Same G G') : St W G' H' σ ρ := by
  refine ⟨c, S.len, fun i s e hn => ?_, fun i j m ds es l hij hi hj => by have := n _ _ (List.mem_of_getElem? hi); cases this⟩
  obtain ⟨x, h1, h2⟩ := S.sl i s e hn
  refine ⟨x, h1, ?_⟩
  cases s with
  | no => trivial
  | dat d => exact Rp.mono g h2
  | seq m ds =>
    have em := n _ _ (List.mem_of_getElem? e)
    subst em
    obtain ⟨l, xs, e, k1, k2, k3, k4, k5, k6⟩ := h2
    have k0 := k5 rfl
    refine ⟨l, xs, e, c.keep l _ k3 k0, c.dom l (by rw [k0]; exact fun z => nomatch z) ?_, k3, k4, k5, k6.mono g⟩
    cases z : W.G0 l with
    | none => rfl
    | some o => rw [S.cur.gg l o z] at k2; cases k2
section
variable {W : Wd} {ρ : List Slot} {K : PySem.W.Frag} {P : Slot → Prop} {PL : List DD → Prop}
theorem iteT {a b : Prop} (h : a) : if true = true then a else b := by rw [if_pos rfl]; exact h
def flatR (n : Nat) (c : Nat → Nat) (v : Nat → Nat → DD) : List DD := ((List.range n).map fun i => (List.range (c i)).map (v i)).flatten
theorem flatR_succ {n : Nat} {c : Nat → Nat} {v : Nat → Nat → DD} : flatR (n + 1) c v = flatR n c v ++ (List.range (c n)).map (v n) := by
  unfold flatR
  rw [List.range_succ, List.map_append, List.flatten_append]; simp
theorem flatR_len {c : Nat → Nat} {v : Nat → Nat → DD} {b : Nat} : ∀ {n : Nat}, (∀ i, i < n → c i ≤ b) → (flatR n c v).length ≤ n * b
  | 0, _ => by simp [flatR]
  | n + 1, h => by
    have ih := flatR_len (v := v) (n := n) fun i hi => h i (by omega)
    have := h n (by omega)
    rw [flatR_succ, List.length_append, List.length_map, List.length_range, Nat.add_mul]; omega
theorem evf_lc2 {wi wi1 : TI} {g g1 : TG} {te : TE} {vs vs1 : List Nat} (h : WiP W wi ρ fun n y => ∃ (c : Nat → Nat) (v : Nat → Nat → DD), n * 900 ≤ 90000 ∧ (∀ i, i < n → c i ≤ 900) ∧
    (∀ i, i < n → GaP W g vs (.dat (y i)) (wipeS ρ vs) fun ρ2 => NoOwn ρ2 ∧ WfP W wi1 ρ2 fun n1 y1 => n1 = c i ∧ ∀ j, j < c i → GaP W g1 vs1 (.dat (y1 j)) (wipeS ρ2 vs1) fun ρ3 => EvP W te ρ3 fun s => s = .dat (v i j)) ∧ PL (flatR n c v)) :
    EvF W (tLc2 wi g tYes wi1 g1 tYes te vs vs1) ρ PL := fun σ G H S Q q =>
  h σ G H S _ fun J G1 H1 n y L f1 l1 w st ⟨c, v, hn, hc, hs, hd⟩ D hD => by
    have S1 := S.go f1
    have gD : G1 D = none := fresh_g S1.cur.gh hD
    have mD : ¬ W.M D := W.nm S1.cur hD
    have bound : ∀ i, i ≤ n → (flatR i c v).length ≤ 90000 := fun i hi => Nat.le_trans (flatR_len fun j hj => hc j (by omega)) (Nat.le_trans (Nat.mul_le_mul_right _ hi) hn)
    refine ⟨fun i m H' => m = n - i ∧ i ≤ n ∧ ∃ G' as, W.Go G1 H1 G' H' ∧ G' D = none ∧ H' D = some (.lst as) ∧ RpAll G' as (flatR i c v),
      ⟨n, by simp, Nat.zero_le _, G1, [], W.newH S1.cur hD, gD, upd_same, .nil⟩, ?_⟩
    rintro i m H' ⟨rfl, hi, G', as, f2, gD', hD', ra⟩
    have c2 := S1.cur.trans f2
    have l2 := st G1 H1 G' H' l1 f2
    by_cases hlt : i < n
    · refine .inr ⟨w.goes i G' H' hlt c2 l2, fun H2 => ∃ G2 as, W.Go G1 H1 G2 H2 ∧ G2 D = none ∧ H2 D = some (.lst as) ∧ RpAll G2 as (flatR (i + 1) c v),
        fun H2 ⟨G2, as, z⟩ => ⟨n - (i + 1), by omega, rfl, hlt, G2, as, z⟩, fun x H2 yl => ?_⟩
      obtain ⟨G2, f3, rx⟩ := w.yields i G' H' x H2 hlt c2 l2 yl
      have S2 : St W G2 H2 (wipe σ vs) (wipeS ρ vs) := (S1.wipe vs).go (f2.trans f3)
      refine hs i hlt _ G2 H2 x S2 (vd rx) _ fun σ3 ρ3 S3 e3 ⟨no3, h3⟩ => ⟨wipe_eq (e3.1.trans (wipe_length _ _)) e3.2, ?_⟩
      simp only [tYes, if_true]
      refine h3 σ3 G2 H2 S3 _ fun J1 G4 H4 n1 y1 L1 f4 l4 w1 st1 ⟨en, hj1⟩ => ?_
      subst en
      have nD : H' D ≠ none := by rw [hD']; exact fun z => nomatch z
      have f34 := f3.trans f4
      have S4 := S3.go f4
      refine ⟨fun j k H5 => k = c i - j ∧ j ≤ c i ∧ ∃ G5 as, W.Go G1 H1 G5 H5 ∧ Same G4 G5 ∧ G5 D = none ∧ H5 D = some (.lst as) ∧ RpAll G5 as (flatR i c v ++ (List.range j).map (v i)),
        ⟨c i, by simp, Nat.zero_le _, G4, as, f2.trans f34, Same.refl G4, f34.dom D nD gD', f34.keep D _ mD hD', by simpa using ra.mono f34.gg⟩, ?_⟩
      rintro j k H5 ⟨rfl, hj, G5, as5, f5, g45, gD5, hD5, ra5⟩
      have c5 := S1.cur.trans f5
      have l5 := st1 G4 H4 G5 H5 l4 c5 g45
      by_cases hjl : j < c i
      · refine .inr ⟨w1.goes j G5 H5 hjl c5 l5, fun H6 => ∃ G6 as, W.Go G1 H1 G6 H6 ∧ Same G4 G6 ∧ G6 D = none ∧ H6 D = some (.lst as) ∧ RpAll G6 as (flatR i c v ++ (List.range (j + 1)).map (v i)),
          fun H6 ⟨G6, as, z⟩ => ⟨c i - (j + 1), by omega, rfl, hjl, G6, as, z⟩, fun x1 H6 yl1 => ?_⟩
        obtain ⟨G6, f6, rx1⟩ := w1.yields j G5 H5 x1 H6 hjl c5 l5 yl1
        have S5 : St W G5 H5 σ3 ρ3 := S4.off no3 c5 g45
        have S6 : St W G6 H6 (wipe σ3 vs1) (wipeS ρ3 vs1) := (S5.wipe vs1).go f6
        refine hj1 j hjl _ G6 H6 x1 S6 (vd rx1) _ fun σ7 ρ7 S7 e7 h7 => ⟨wipe_eq (e7.1.trans (wipe_length _ _)) e7.2, ?_⟩
        simp only [tYes, if_true]
        refine h7 σ7 G6 H6 S7 _ fun z G8 H8 s8 f8 v8 e8 => ?_
        subst e8
        have f68 := f6.trans f8
        have nD5 : H5 D ≠ none := by rw [hD5]; exact fun z => nomatch z
        refine ⟨as5, f68.keep D _ mD hD5, ?_, G8, as5 ++ [z], Fr.mut (f5.trans f68) hD (f68.dom D nD5 gD5) mD, g45.trans f68.gg, f68.dom D nD5 gD5, upd_same, ?_⟩
        · have e1 := ra5.length
          have e2 := bound i hi
          have e3 := hc i hlt
          rw [List.length_append, List.length_map, List.length_range] at e1
          exact sz_lt (by omega)
        · rw [List.range_succ, List.map_append, ← List.append_assoc]
          exact (ra5.mono f68.gg).snoc v8
      · have ej : j = c i := by omega
        subst ej
        refine .inl ⟨w1.stops G5 H5 c5 l5, G5, as5, f5, gD5, hD5, ?_⟩
        rw [flatR_succ]; exact ra5
    · have e : i = n := by omega
      subst e
      exact .inl ⟨w.stops G' H' c2 l2, q D as G' H' _ (f1.trans f2) (f1.fr D hD) gD' hD' ra hd⟩
theorem cap_sumU {ns : List Int} {s : Slot} (hs : SeqS s (ns.map .int)) (k : P (.dat (.int ns.sum))) : CaP W (rSumU K) [s] P := fun G H xs c v Q q => by
  obtain ⟨x, rfl, v1⟩ := pair1 v
  obtain ⟨a, ys, rfl, h1, r1⟩ := hs.get (K := K) v1 c.gh
  have e := r1.ints
  subst e
  exact ⟨a, ns, rfl, h1, q _ G H _ (Fr.self c) (vd (Rp.int _)) k⟩
/-- sorted(set(xs)) -/
theorem evf_sortedset {w : World} {ta : TA} (h : EvA W ta ρ fun ss => ∃ (s : Slot) (ns : List Int), ss = [s] ∧ LsS s (ns.map .int) ∧ ns.length ≤ 60 ∧ ∀ ms : List Int, ms.Pairwise (· < ·) → (∀ k : Int, k ∈ ms ↔ k ∈ ns) → ms.length ≤ ns.length → PL (ms.map .int)) :
    EvF W (tCB (rSortedSet w) (tCons (tCB (rSetL K w) ta) tNil)) ρ PL := fun σ G H S Q q =>
  h σ G H S _ fun xs G1 H1 ss f1 v1 ⟨s, ns, e, hs, hl, hd⟩ => by
    subst e
    obtain ⟨x, rfl, v⟩ := pair1 v1
    have c1 := S.cur.trans f1
    obtain ⟨a, ys, rfl, h1, r1⟩ := hs.get v c1.gh
    have e := r1.ints
    subst e
    refine ⟨a, ns, rfl, SqL.of h1, by unfold scanBound; omega, fun p c hp hc => ?_⟩
    refine ⟨p, _, c, rfl, upd_same, by omega, fun ms p2 hs2 hm hlen hp2 => ?_⟩
    have f2 := f1.trans (W.newH (o := SetO w p (fun j => decide (j ∈ ns)) c) c1 hp)
    have c2 := S.cur.trans f2
    have f3 := f2.trans (W.newH (o := .lst (ms.map V.int)) c2 hp2)
    exact q p2 _ G1 _ _ f3 (f2.fr p2 hp2) (fresh_g f2.gh hp2) upd_same (RpAll.of_ints ms) (hd ms hs2 (fun k => (hm k).trans (by simp)) (by omega))
end
end Dl

set_option Elab.async false
set_option linter.all false
set_option maxRecDepth 100000
set_option maxHeartbeats 1000000
/-! D13: name = {k: v for ..}, the name the def's own. -/
namespace Dl
open PySem PySem.Spec PyProof.Rows L2
theorem sw_trueD {kx vx : Expr} {gs : List Comprehension} {scope : Scope} {pos py : Pos} {y : Str} {l : Nat} {env : Env} (hk : env.scope.kind = .function) (hy : env.scope.names.lookup y = some .local) (hl : (py.line == pos.line) = true)
    (ha : (scope.names.any fun (n, k) => n == y && (k == .local || k == .cell)) = false) : swapsWith (.DictComp kx vx gs scope pos) (some (.Name y py)) l env = pure true := by
  have ky : env.kindOf y = some .local := hy
  have hb : env.blockKind = .function := by unfold Env.blockKind; rw [hk]; rfl
  unfold swapsWith
  simp only [hb, ky, ha, Expr.pos, hl]
  rfl
section
variable {X : Cx}
theorem ps_setDc {i : Nat} {y : Str} {py : Pos} {kx vx tg iter : Expr} {ifs : List Expr} {scope : Scope} {own : List (Str × Nat)} {pos spos : Pos} {wi : TI} {g : TG} {tt : TT} {tk tv : TE} (hc : X.calm = true) (hN : X.N.Nodup) (hy : X.N[i]? = some y) (hyl : X.env.scope.names.lookup y = some .local)
    (hsw : swapsWith (.DictComp kx vx [⟨tg, iter, ifs, 0⟩] scope pos) (some (.Name y py)) spos.line X.env = pure true) (hi : PI X tg iter wi) (ok : BlkOk X.N X.env.scope scope own)
    (hg : ∀ (s : Shared) (H : Hp) (C : Addr) (cl : List (Str × Addr)) (fp : List Addr), PG (X.blk s H scope (compEnvC scope cl C X.env) fp) tg g) (ht : ∀ (s : Shared) (H : Hp) (C : Addr) (cl : List (Str × Addr)) (fp : List Addr), PTs (X.blk s H scope (compEnvC scope cl C X.env) fp) ifs tt)
    (hk : ∀ (s : Shared) (H : Hp) (C : Addr) (cl : List (Str × Addr)) (fp : List Addr), PE (X.blk s H scope (compEnvC scope cl C X.env) fp) kx tk)
    (he : ∀ (s : Shared) (H : Hp) (C : Addr) (cl : List (Str × Addr)) (fp : List Addr), PE (X.blk s H scope (compEnvC scope cl C X.env) fp) vx tv) (hs : ∀ x, foldedSetIterable iter X.env x = pure x := by intro _; rfl) :
    PS X (.Assign [.Name y py] (.DictComp kx vx [⟨tg, iter, ifs, 0⟩] scope pos) spos) (tAsg (tDc wi g tt tk tv (own.map (·.2))) (gName i)) := by
  refine ⟨fun pins s σ H D I h => ?_⟩
  rw [exec_Assign_Name_used _ _ _ _ hsw]
  refine wpAny_bind (wpAny_standAt (wpAny_bind ?_))
  show wpAny _ X.A (do let _ ← comprehension (.DictComp kx vx [⟨tg, iter, ifs, 0⟩] scope pos) scope X.env (firstIterPos [⟨tg, iter, ifs, 0⟩] pos) newDict false (eval iter X.env) (some (assign (.Name y py) X.env))) _ _ s
  have h : tDc wi g tt tk tv (own.map (·.2)) σ H (fun x H1 => gName i x σ H1 D.nx) := h
  refine wpAny_bind (thn (dc_core (Qf := fun _ s' => SP X pins D .next s') hc hN I hi ok hg ht hk he hs h fun L C s' m H' I' q hn f => ?_) fun _ s' hq => wpAny_pure (wpAny_pure hq))
  show wpAny _ _ (assign (.Name y py) X.env (.ref L)) _ _ _
  refine wpAny_assign_Name (store_ok2 (v := V.ref L) I' hN hy (.inl hyl) rfl (fun s2 I2 ⟨a, sb, ha⟩ => ?_) (.inr hyl))
  obtain ⟨f0, f1, f2, f3, f4, f5⟩ := f
  have haC : C ≠ a := by
    rcases ha with z | z
    · rw [z]; exact f1
    · exact fun e => f4 y a z e.symm
  refine ⟨m, hn.sameBut sb haC, fun h3 sb3 => ?_⟩
  exact ⟨_, H', I2.turned (t' := s2.toks) (fun b o hb e => (sb3.2 b hb).trans e) f0 f1 f3 f4 f5, q⟩
end
end Dl

set_option Elab.async false
set_option linter.all false
set_option maxRecDepth 100000
set_option maxHeartbeats 1000000
namespace Dl
open PySem PySem.Spec PyProof.Rows L2
local macro_rules | `(tactic| wtm_at "d") => `(tactic| first
  | with_reducible refine sd_seq ?_ | with_reducible refine sd_if ?_ | with_reducible refine sd_ret ?_
  | with_reducible refine evp_op ?_ | with_reducible refine evp_un ?_ | with_reducible refine evp_cb ?_ | with_reducible refine evp_tupD ?_
  | with_reducible refine evp_andV ?_ | with_reducible refine evp_orV ?_ | with_reducible refine evp_notV ?_ | with_reducible refine evp_if ?_
  | with_reducible refine evt_test ?_ | with_reducible refine evt_B ?_ | with_reducible refine evt_and ?_ | with_reducible refine evt_or ?_ | with_reducible refine evt_not ?_
  | with_reducible refine eva_cons ?_ | with_reducible refine eva_nil ?_
  | with_reducible refine evp_int ?_ | with_reducible refine evp_str ?_ | with_reducible refine evp_bl ?_ | with_reducible refine evp_non ?_ | with_reducible refine evp_any ?_
  | (with_reducible refine evp_isv ?_; refine evp_dat rfl ?_)
  | with_reducible refine evp_callP ?_ | with_reducible refine evp_chain ?_
  | with_reducible refine sd_next ?_
  | with_reducible refine opp_add ?_ | with_reducible refine opp_sub ?_ | with_reducible refine opp_lt ?_ | with_reducible refine opp_le ?_ | with_reducible refine opp_gt ?_ | with_reducible refine opp_ge ?_
  | with_reducible refine opp_isN ?_ | with_reducible refine opp_notN ?_ | with_reducible refine unp_neg ?_
  | with_reducible refine ex_bl ?_ | with_reducible refine ex_dat ?_ | with_reducible refine ex_int ?_)
local macro_rules | `(tactic| wtm_at "e") => `(tactic| first | wtm_at "d" | with_reducible refine sd_set ?_)
variable {P : Program} {w : World} {K : PySem.W.Frag} {mg : Str → Option Value} {base : Heap} {A : Ads}
/-- the counts as a row of places -/
def rowOf (cs : List Nat) : List Nat := ((List.range cs.length).map fun i => List.replicate (cs.getD i 0) (i + 1)).flatten
def posOf (ms : List Nat) (k : Nat) : Nat := ms.idxOf k + 1
def eFold (ms : List Nat) : List Nat → List Pl → Nat → List Pl
  | [], pl, _ => pl
  | one :: r, pl, o => if o = 0 then eFold ms r pl (posOf ms one) else eFold ms r (pl ++ [.m 0 o (posOf ms one)]) pl.length
def eBase (ms : List Nat) : List Pl := .v 0 :: ms.map .v
def eplan (cs ms : List Nat) : List Pl := eFold ms (rowOf cs) (eBase ms) 0
def sum9 (es : List DD) : Prop := ∃ cs : List Nat, es = cs.map (fun c => .int (c : Int)) ∧ 9 < cs.sum
def badC (es : List DD) : Prop := es.length = 0 ∨ 5 < es.length ∨ es.all numD = false ∨ sum9 es
theorem nats_of : ∀ {es : List DD}, es.all numD = true → ∃ cs : List Nat, es = cs.map fun c => .int (c : Int)
  | [], _ => ⟨[], rfl⟩
  | d :: es, h => by
    rw [List.all_cons, Bool.and_eq_true] at h
    obtain ⟨cs, e⟩ := nats_of h.2
    cases d with
    | int i =>
      have h0 : 0 ≤ i := of_decide_eq_true h.1
      exact ⟨i.toNat :: cs, by rw [List.map_cons, ← e, Int.toNat_of_nonneg h0]⟩
    | _ => cases h.1
theorem sum_cast : ∀ cs : List Nat, (cs.map fun c : Nat => (c : Int)).sum = (cs.sum : Int)
  | [] => rfl
  | c :: cs => by rw [List.map_cons, List.sum_cons, List.sum_cons, sum_cast cs]; omega
theorem flatR_row (cs : List Nat) : flatR cs.length (fun i => cs.getD i 0) (fun i _ => .int ((i : Int) + 1)) = (rowOf cs).map fun k : Nat => .int (k : Int) := by
  unfold flatR rowOf
  rw [List.map_flatten, List.map_map]
  congr 1
  apply List.map_congr_left
  intro i _
  show (List.range (cs.getD i 0)).map _ = (List.replicate (cs.getD i 0) (i + 1)).map _
  rw [range_rep, List.map_replicate]
  rfl
theorem rowOf_len (cs : List Nat) : (rowOf cs).length = cs.sum := by
  unfold rowOf
  rw [List.length_flatten, List.map_map]
  have : (List.range cs.length).map (List.length ∘ fun i => List.replicate (cs.getD i 0) (i + 1)) = cs := by
    apply List.ext_getElem
    · simp
    · intro i h1 h2
      simp [List.getD_eq_getElem?_getD, List.getElem?_eq_getElem h2]
  rw [this]
theorem rowOf_pos {cs : List Nat} {k : Nat} (h : k ∈ rowOf cs) : 1 ≤ k ∧ k ≤ cs.length := by
  unfold rowOf at h
  obtain ⟨l, hl, hk⟩ := List.mem_flatten.mp h
  obtain ⟨i, hi, rfl⟩ := List.mem_map.mp hl
  have := (List.mem_replicate.mp hk).2
  have := List.mem_range.mp hi
  omega
/-- the dict of places -/
theorem valV_fold {f v : Nat → Int} : ∀ {n : Nat}, (∀ i j, i < n → j < n → f i = f j → i = j) → ∀ i, i < n → valV ((List.range n).foldl (fun acc i => putK acc (.inl (f i)) (.int (v i))) ([] : List (Key × V))) (.inl (f i)) = some (.int (v i))
  | 0, _, i, hi => absurd hi (Nat.not_lt_zero i)
  | n + 1, inj, i, hi => by
    rw [List.range_succ, List.foldl_append]
    show valV (putK _ _ _) _ = _
    rw [valV_put]
    by_cases e : f i = f n
    · rw [if_pos (by rw [e])]
      have := inj i n hi (by omega) e
      rw [this]
    · rw [if_neg (fun z => e (Sum.inl.inj z))]
      exact valV_fold (fun i j hi hj => inj i j (by omega) (by omega)) i (by
        have : i ≠ n := fun z => e (by rw [z])
        omega)
theorem all_items {f : DD → Bool} (ds : List DD) : ((List.range ds.length).all fun i => f (itemsOf ds i)) = ds.all f := by
  have := congrArg (fun l => List.all l f) (items_all ds)
  rw [← this]
  simp [List.all_map]; rfl
theorem getD_sum {cs : List Nat} : ∀ (i : Nat), cs.getD i 0 ≤ cs.sum := by
  induction cs with
  | nil => intro i; simp
  | cons c cs ih =>
    intro i
    cases i with
    | zero => rw [List.sum_cons]; show c ≤ _; omega
    | succ i => have := ih i; rw [List.sum_cons]; show cs.getD i 0 ≤ _; omega
theorem ints_nats : ∀ {l : List Int}, (∀ k ∈ l, 0 ≤ k) → ∃ ms : List Nat, l = ms.map fun k : Nat => (k : Int)
  | [], _ => ⟨[], rfl⟩
  | k :: l, h => by
    obtain ⟨ms, e⟩ := ints_nats (l := l) fun j hj => h j (List.mem_cons_of_mem _ hj)
    exact ⟨k.toNat :: ms, by rw [List.map_cons, ← e, Int.toNat_of_nonneg (h k List.mem_cons_self)]⟩
theorem range_getD {β : Type} {f : Nat → β} (l : List Nat) : (List.range l.length).map (fun i => f (l.getD i 0)) = l.map f := by
  apply List.ext_getElem
  · simp
  · intro i h1 h2
    have h : i < l.length := by simpa using h2
    simp [List.getD_eq_getElem?_getD, List.getElem?_eq_getElem h]
theorem get_getD {l : List Nat} {i : Nat} (h : i < l.length) : l[i]? = some (l.getD i 0) := by
  rw [List.getD_eq_getElem?_getD, List.getElem?_eq_getElem h]; rfl
theorem inc_inj {bs : List Nat} (h : bs.Pairwise (· < ·)) {i j : Nat} (hi : i < bs.length) (hj : j < bs.length) (e : bs.getD i 0 = bs.getD j 0) : i = j := by
  have a := List.pairwise_iff_getElem.mp h
  rw [List.getD_eq_getElem?_getD, List.getElem?_eq_getElem hi, List.getD_eq_getElem?_getD, List.getElem?_eq_getElem hj] at e
  have e : bs[i] = bs[j] := e
  rcases Nat.lt_trichotomy i j with z | z | z
  · have := a i j hi hj z; omega
  · exact z
  · have := a j i hj hi z; omega
theorem eBase_map (ms : List Nat) : eBase ms = (0 :: ms).map .v := rfl
def kvsOf (ms : List Nat) : List (Key × V) := (List.range (eBase ms).length).foldl (fun acc i => putK acc (.inl (((0 :: ms).getD i 0 : Nat) : Int)) (.int ((i : Nat) : Int))) []
theorem kvs_val {ms : List Nat} (h : ms.Pairwise (· < ·)) (h1 : ∀ k ∈ ms, 1 ≤ k) {k : Nat} (hk : k ∈ ms) : valV (kvsOf ms) (.inl (k : Int)) = some (.int (posOf ms k : Nat)) := by
  have hb : (0 :: ms).Pairwise (· < ·) := List.pairwise_cons.mpr ⟨fun a ha => h1 a ha, h⟩
  have hl : (eBase ms).length = (0 :: ms).length := by rw [eBase_map, List.length_map]
  have hi := List.idxOf_lt_length_of_mem hk
  have hp : posOf ms k < (eBase ms).length := by rw [hl]; unfold posOf; simp; exact hi
  have := valV_fold (f := fun i => (((0 :: ms).getD i 0 : Nat) : Int)) (v := fun i => (i : Int)) (n := (eBase ms).length) (fun i j hi hj e => inc_inj hb (by omega) (by omega) (by exact_mod_cast e)) (posOf ms k) hp
  have e : (0 :: ms).getD (posOf ms k) 0 = k := by
    show ms.getD (ms.idxOf k) 0 = k
    rw [List.getD_eq_getElem?_getD, List.getElem?_eq_getElem hi]
    exact List.getElem_idxOf hi
  rw [e] at this
  exact this
abbrev c_elder_plan (A : Ads) : List Slot → (DD → Prop) → ErrP → Prop := fun ss R RE => ∃ s k, ss = [s] ∧ kdS s = some k ∧
  ((decide (k = .lst) || decide (k = .tup)) = false → RE A.InvalidSize "word" (.str ("counts" : Str))) ∧
  ((decide (k = .lst) || decide (k = .tup)) = true → ∃ es, LeS s es ∧ (∀ d ∈ es, ∃ kd, kdD d = some kd) ∧ (badC es → RE A.InvalidSize "word" (.str ("counts" : Str))) ∧
    ∀ cs : List Nat, es = cs.map (fun c => .int (c : Int)) → 1 ≤ cs.length → cs.length ≤ 5 → cs.sum ≤ 9 → ∀ ms : List Nat, ms.Pairwise (· < ·) → (∀ k, k ∈ ms ↔ k ∈ rowOf cs) → ms.length ≤ cs.sum → R (.tup ((eplan cs ms).map Pl.dd)))
theorem okF_elder_plan (T : Txe P K mg A) : FDF "elder_plan" s_elder_plan P w K mg base (L2.CX P w) 5 A.elder_plan ["counts"] (spE NoM AnyJ (c_elder_plan A)) := by
  obtain ⟨fd, F⟩ := T.F_elder_plan
  obtain ⟨k_is_number, fd_is_number, G_is_number, B_is_number⟩ := ok_is_number (P := P) (w := w) (base := base) T.toTxt
  obtain ⟨k_is_sequence, fd_is_sequence, G_is_sequence, B_is_sequence⟩ := ok_is_sequence (P := P) (w := w) (base := base) T.toTxt
  refine ⟨F.kp, fd, F, ?_, F.binds fun _ _ _ _ _ _ us hl => match us, hl with | [_], _ => rfl⟩
  refine fn_sdX F sc_elder_plan no_mut no_mut2 ?len (by decide) fun cdv B outer s H E hr => ⟨_,
    (pss_cons (ps_if (PW.pt (pw_or (pt_not (pt_val (pe_call G_is_sequence (hr.mono (by decide)) (by rfl) T.g_is_sequence k_is_sequence B_is_sequence .nil pass0 (pa_cons (pv 0) pa_nil)))) (pw_or (pt_not (pt_chain op_leI op_leI pe_int (pe_callB (r := cLen K) call_cLen (by rfl) T.n_len (by decide +kernel) (pa_cons (pv 0) pa_nil)) (pe_const (by rfl) T.c_MOST_ELDERS))) (pw_or1 (pt_not (pt_val (pe_callB (r := rAll K) (cr_all rfl) (by rfl) T.n_all (by decide +kernel) (pa_cons (pe_lc (own := [("one", 1)]) (g := (gName 1)) (by rfl) sc_elder_plan.nd (pi_seqK (K := K) rfl (pv 0)) (blkOk_by (own := [("one", 1)]) (N := N_elder_plan) (sc := defScope s_elder_plan) (by decide +kernel)) (fun _ _ _ _ _ => (pg_name (i := 1) sc_elder_plan.nd rfl (Or.inl rfl))) (fun _ _ _ _ _ => pts_nil) (fun _ _ _ _ _ => (pe_call G_is_number (hr.mono (by decide)) (by rfl) T.g_is_number k_is_number B_is_number .nil pass0 (pa_cons (pv 1) pa_nil)))) pa_nil))))))))
      (pss_one (ps_raise rfl (takes_of rfl rfl rfl rfl) (pmk_err T.e_InvalidSize (hr.mono (by decide)) (by rfl) T.g_InvalidSize (pa_cons pe_str pa_nil))))
      pss_nil)
      (pss_cons (ps_if (pt_cmpR op_gtI (pe_callB (r := rSumU K) (cr_sumU rfl) (by rfl) T.n_sum (by decide +kernel) (pa_cons (pv 0) pa_nil)) (pe_const (by rfl) T.c_MOST_COUNTED) (nomark _))
      (pss_one (ps_raise rfl (takes_of rfl rfl rfl rfl) (pmk_err T.e_InvalidSize (hr.mono (by decide)) (by rfl) T.g_InvalidSize (pa_cons pe_str pa_nil))))
      pss_nil)
      (pss_cons (ps_setLc2 (i := 2) (own := [("at", 6), ("count", 7), ("turn", 8)]) (g := (gTup K 2 (gCons (gName 6) (gCons (gName 7) gNil)))) (g1 := (gName 8)) (vs1 := [8]) (by rfl) sc_elder_plan.nd rfl rfl (sw_true rfl rfl rfl (by decide +kernel)) (pi_enumK (K := K) rfl (by rfl) T.n_enumerate (pa_cons (pv 0) pa_nil)) (blkOk_by (own := [("at", 6), ("count", 7), ("turn", 8)]) (N := N_elder_plan) (sc := defScope s_elder_plan) (by decide +kernel)) (by decide) (fun _ _ _ _ _ => (pg_tup rfl (pgs_cons (pg_name (i := 6) sc_elder_plan.nd rfl (Or.inl rfl)) (pgs_cons (pg_name (i := 7) sc_elder_plan.nd rfl (Or.inl rfl)) pgs_nil)))) (fun _ _ _ _ _ => pts_nil) (fun _ _ _ _ _ => (pi_range1 (by rfl) T.n_range (pa_cons (pv 7) pa_nil))) (fun _ _ _ _ _ => (pg_name (i := 8) sc_elder_plan.nd rfl (Or.inl rfl))) (fun _ _ _ _ _ => pts_nil) (fun _ _ _ _ _ => (pe_op op_addU (pv 6) pe_int)))
      (pss_cons (ps_set (i := 3) sc_elder_plan.nd rfl (Or.inl rfl) (pe_op op_addU (pe_lst (pa_cons (pe_tup (pa_cons pe_str (pa_cons pe_int pa_nil))) pa_nil)) (pe_lc (own := [("at", 6)]) (g := (gName 6)) (by rfl) sc_elder_plan.nd (pi_seqK (K := K) rfl (pe_callB (r := rSortedSet w) (cr_sortedSet rfl) (by rfl) T.n_sorted (by decide +kernel) (pa_cons (pe_callTy (T := "set") (r := rSetL K w) (cr_setL rfl) (by rfl) T.n_set (by decide +kernel) (pa_cons (pv 2) pa_nil)) pa_nil))) (blkOk_by (own := [("at", 6)]) (N := N_elder_plan) (sc := defScope s_elder_plan) (by decide +kernel)) (fun _ _ _ _ _ => (pg_name (i := 6) sc_elder_plan.nd rfl (Or.inl rfl))) (fun _ _ _ _ _ => pts_nil) (fun _ _ _ _ _ => (pe_tup (pa_cons pe_str (pa_cons (pv 6) pa_nil)))))))
      (pss_cons (ps_setDc (i := 4) (own := [("at", 6), ("step", 9)]) (g := (gTup K 2 (gCons (gName 6) (gCons (gName 9) gNil)))) (by rfl) sc_elder_plan.nd rfl rfl (sw_trueD rfl rfl rfl (by decide +kernel)) (pi_enumK (K := K) rfl (by rfl) T.n_enumerate (pa_cons (pv 3) pa_nil)) (blkOk_by (own := [("at", 6), ("step", 9)]) (N := N_elder_plan) (sc := defScope s_elder_plan) (by decide +kernel)) (fun _ _ _ _ _ => (pg_tup rfl (pgs_cons (pg_name (i := 6) sc_elder_plan.nd rfl (Or.inl rfl)) (pgs_cons (pg_name (i := 9) sc_elder_plan.nd rfl (Or.inl rfl)) pgs_nil)))) (fun _ _ _ _ _ => pts_nil) (fun _ _ _ _ _ => (pe_ix (r := rIx K) ix_seq (pv 9) pe_int (fun _ _ => rfl))) (fun _ _ _ _ _ => (pv 6)))
      (pss_cons (ps_set (i := 5) sc_elder_plan.nd rfl (Or.inl rfl) pe_int)
      (pss_cons (ps_for (passes_of rfl) rfl (pi_seqK (K := K) rfl (pv 2)) (pg_name (i := 1) sc_elder_plan.nd rfl (Or.inl rfl))
      (pss_one (ps_if (pt_cmpR (r := rEqD K) (op_eqD hr.units) (pv 5) pe_int (nomark _))
      (pss_one (ps_set (i := 5) sc_elder_plan.nd rfl (Or.inl rfl) (pe_dget (hu_of hr) (pv 4) (pv 1) (fun _ _ => rfl))))
      (pss_cons (ps_expr (pe_bm PySem.F.plainAttrs_list PySem.F.slot_list_append PySem.F.type_list_append mt_append (pv 3) (pa_cons (pe_tup (pa_cons pe_str (pa_cons pe_int (pa_cons (pv 5) (pa_cons (pe_dget (hu_of hr) (pv 4) (pv 1) (fun _ _ => rfl)) pa_nil))))) pa_nil)))
      (pss_one (ps_set (i := 5) sc_elder_plan.nd rfl (Or.inl rfl) (pe_op op_subI (pe_callB (r := cLen K) call_cLen (by rfl) T.n_len (by decide +kernel) (pa_cons (pv 3) pa_nil)) pe_int)))))))
      (pss_one (ps_ret (pe_callTy (T := "tuple") (r := cTup K) call_cTup (by rfl) T.n_tuple (by decide +kernel) (pa_cons (pv 3) pa_nil))))))))))), ?body⟩
  case len => intro ss R RE hc; (first | (obtain ⟨_, rfl, _⟩ := hc; rfl) | (obtain ⟨_, _, rfl, _⟩ := hc; rfl) | (obtain ⟨_, _, _, rfl, _⟩ := hc; rfl) | (obtain ⟨_, _, _, _, rfl, _⟩ := hc; rfl) | (obtain ⟨_, _, _, _, _, rfl, _⟩ := hc; rfl) | (obtain ⟨_, _, _, _, _, _, rfl, _⟩ := hc; rfl) | (obtain ⟨_, _, _, _, _, _, _, rfl, _⟩ := hc; rfl) | (obtain ⟨_, _, _, _, _, _, _, _, rfl, _⟩ := hc; rfl) | (obtain ⟨_, _, _, _, _, _, _, _, _, rfl, _⟩ := hc; rfl) | (obtain ⟨_, _, _, _, _, _, _, _, _, _, rfl, _⟩ := hc; rfl) | (obtain ⟨_, _, _, _, _, _, _, _, _, _, _, rfl, _⟩ := hc; rfl))
  case body =>
    rintro W ss R RE _ _ ⟨s, k, rfl, hk, hno, hyes⟩ hE
    repeat (wtm_at "e")
    refine evp_arg rfl hk ?_
    repeat (wtm_at "d")
    refine ⟨ok1 hk, _, k, rfl, kd_al hk, _, rfl, ⟨fun h => ?_, fun h => ?_⟩⟩
    · refine ⟨fun _ => ?_, fun h => Bool.noConfusion h⟩
      refine sd_raise hE ?_
      repeat (wtm_at "d")
      exact ⟨_, rfl, hno (by cases e : (decide (k = .lst) || decide (k = .tup)) <;> simp_all)⟩
    obtain ⟨es, hs, hkn, hbad, hgood⟩ := hyes (by cases e : (decide (k = .lst) || decide (k = .tup)) <;> simp_all)
    repeat (wtm_at "d")
    refine evp_seq rfl (le_seq hs) ?_
    repeat (wtm_at "d")
    refine cap_len (seqS_lend (le_seq hs)) ?_
    repeat (wtm_at "d")
    have raiseIt : ∀ (ρ : List Slot) (E2 : DE) (T2 : TS) (t : TA) (X : SD W T2 ρ E2 → Prop), True := fun _ _ _ _ _ => trivial
    refine ⟨fun c1 => ?_, fun c1 => ?_⟩
    all_goals repeat (wtm_at "d")
    · refine ⟨fun c2 => ?_, fun c2 => ?_⟩
      · refine ⟨fun _ => ?_, fun h => Bool.noConfusion h⟩
        refine sd_raise hE ?_
        repeat (wtm_at "d")
        refine ⟨_, rfl, hbad (.inr (.inl ?_))⟩
        have : ¬ ((es.length : Int) ≤ 5) := fun z => by rw [decide_eq_true z] at c2; cases c2
        omega
      have h1 : 1 ≤ es.length := by have := of_decide_eq_true c1; omega
      have h5 : es.length ≤ 5 := by
        have : (es.length : Int) ≤ 5 := by
          cases e : decide ((es.length : Int) ≤ 5) with
          | true => exact of_decide_eq_true e
          | false => rw [e] at c2; cases c2
        omega
      repeat (wtm_at "d")
      refine evp_new (evf_map (wip_seq ?_))
      refine evp_seq rfl (le_seq hs) ?_
      refine ⟨es, seqS_lend (le_seq hs), by omega, fun i => .bl (numD (itemsOf es i)), fun i hi => gap_name (by decide) ?_, ?_⟩
      · obtain ⟨kd, hkd⟩ := hkn (itemsOf es i) (List.mem_of_getElem? (itemsOf_lt hi))
        repeat (wtm_at "d")
        exact ⟨rfl, _, kd, rfl, hkd, rfl⟩
      repeat (wtm_at "d")
      refine cap_allR (f := fun i => numD (itemsOf es i)) ?_
      rw [all_items]
      repeat (wtm_at "d")
      refine ⟨fun h => ?_, fun h => ?_⟩
      · refine sd_raise hE ?_
        repeat (wtm_at "d")
        exact ⟨_, rfl, hbad (.inr (.inr (.inl (by cases e : es.all numD <;> simp_all))))⟩
      obtain ⟨cs, rfl⟩ := nats_of (es := es) (by cases e : es.all numD <;> simp_all)
      rw [List.length_map] at h1 h5
      have hgood := hgood cs rfl h1 h5
      repeat (wtm_at "d")
      refine evp_seq rfl (le_seq hs) ?_
      repeat (wtm_at "d")
      refine cap_sumU (ns := cs.map fun c : Nat => (c : Int)) (by rw [List.map_map]; exact seqS_lend (le_seq hs)) ?_
      rw [sum_cast]
      repeat (wtm_at "d")
      refine ⟨fun h => ?_, fun h => ?_⟩
      · refine sd_raise hE ?_
        repeat (wtm_at "d")
        exact ⟨_, rfl, hbad (.inr (.inr (.inr ⟨cs, rfl, by have := of_decide_eq_true h; omega⟩)))⟩
      have h9 : cs.sum ≤ 9 := by have := of_decide_eq_false h; omega
      have hgood := hgood h9
      repeat (wtm_at "e")
      refine evp_new (evf_lc2 (wip_enum ?_))
      repeat (wtm_at "d")
      refine evp_seq rfl (le_seq hs) ?_
      repeat (wtm_at "d")
      refine ⟨_, _, rfl, seqS_lend (le_seq hs), fun i => cs.getD i 0, fun i _ => .int ((i : Int) + 1), by rw [List.length_map]; omega, fun i hi => Nat.le_trans (getD_sum (cs := cs) i) (by omega), fun i hi => ?_, ?_⟩
      · have hi : i < cs.length := by simpa using hi
        show GaP W _ _ (.dat (.tup [.int ((i : Nat) : Int), itemsOf (cs.map fun c : Nat => DD.int (c : Int)) i])) _ _
        rw [items_mapg (get_getD hi)]
        refine gap_tup rfl (gas_cons (gap_name (by decide) (gas_cons (gap_name (by decide) (gas_nil ?_)))))
        refine ⟨noOwn_le hs ?_, wfp_rng1 ?_⟩
        · repeat (first | exact noOwn_nil | refine noOwn_no ?_ | refine noOwn_dat ?_)
        repeat (wtm_at "d")
        refine ⟨_, rfl, by omega, by have := getD_sum (cs := cs) i; omega, Int.toNat_natCast _, fun j hj => gap_name (by decide) ?_⟩
        repeat (wtm_at "d")
        rfl
      rw [List.length_map, flatR_row]
      repeat (wtm_at "d")
      refine sd_own (evf_op ?_)
      refine evp_new (evf_lstD ?_)
      repeat (wtm_at "d")
      refine ⟨_, rfl, by decide, ?_⟩
      repeat (wtm_at "d")
      refine ⟨_, rfl, by decide, ?_⟩
      refine evp_new (evf_map (wip_seq (evp_new (evf_sortedset ?_))))
      repeat (wtm_at "d")
      refine ⟨_, (rowOf cs).map fun k : Nat => (k : Int), rfl, by rw [List.map_map]; exact .lst _, by rw [List.length_map, rowOf_len]; omega, fun msI hp hm hl => ?_⟩
      rw [List.length_map, rowOf_len] at hl
      obtain ⟨ms, rfl⟩ := ints_nats (l := msI) fun k hk => by
        obtain ⟨j, _, rfl⟩ := List.mem_map.mp ((hm k).mp hk)
        omega
      have hp : ms.Pairwise (· < ·) := (List.pairwise_map.mp hp).imp fun h => by omega
      have hm : ∀ k, k ∈ ms ↔ k ∈ rowOf cs := fun k => by
        refine ⟨fun z => ?_, fun z => ?_⟩
        · obtain ⟨j, hj, e⟩ := List.mem_map.mp ((hm (k : Int)).mp (List.mem_map.mpr ⟨k, z, rfl⟩))
          have : j = k := by omega
          rw [← this]; exact hj
        · obtain ⟨j, hj, e⟩ := List.mem_map.mp ((hm (k : Int)).mpr (List.mem_map.mpr ⟨k, z, rfl⟩))
          have : j = k := by omega
          rw [← this]; exact hj
      rw [List.length_map] at hl
      have hR := hgood ms hp hm hl
      have m1 : ∀ k ∈ ms, 1 ≤ k := fun k hk => (rowOf_pos ((hm k).mp hk)).1
      refine ⟨_, .lst _, by rw [List.length_map, List.length_map]; omega, fun i => (Pl.v (ms.getD i 0)).dd, fun i hi => ?_, ?_⟩
      · have hi : i < ms.length := by simpa using hi
        rw [items_mapg (x := ((ms.getD i 0 : Nat) : Int)) (by rw [List.getElem?_map, get_getD hi]; rfl)]
        refine gap_name (by decide) ?_
        repeat (wtm_at "d")
        exact ⟨_, rfl, by show 2 ≤ 100000; decide, rfl⟩
      rw [List.length_map, List.length_map, range_getD (f := fun n => (Pl.v n).dd)]
      refine opf_cat (.lst _) (.lst _) (by rw [List.length_map]; show 1 + ms.length ≤ _; omega) ?_
      have e0 : [DD.tup [.str ("version" : Str), .int 0]] ++ ms.map (fun n => (Pl.v n).dd) = (eBase ms).map Pl.dd := by
        rw [eBase_map, List.map_map]; rfl
      rw [e0]
      have hbl : (eBase ms).length = ms.length + 1 := by rw [eBase_map]; simp
      repeat (wtm_at "e")
      refine evp_dc1 (wip_enum ?_)
      repeat (wtm_at "d")
      refine evp_var (s := .seq .own ((eBase ms).map Pl.dd)) rfl (fun h => nomatch h) ?_
      repeat (wtm_at "d")
      refine ⟨_, _, rfl, .seq _ _, by rw [List.length_map]; omega, fun i => (((0 :: ms).getD i 0 : Nat) : Int), fun i => (i : Int), fun i hi => ?_, ?_⟩
      · have hi : i < (eBase ms).length := by simpa using hi
        show GaP W _ _ (.dat (.tup [.int ((i : Nat) : Int), itemsOf ((eBase ms).map Pl.dd) i])) _ _
        rw [items_mapg (x := Pl.v ((0 :: ms).getD i 0)) (by rw [eBase_map, List.getElem?_map, get_getD (by simpa [eBase_map] using hi)]; rfl)]
        refine gap_tup rfl (gas_cons (gap_name (by decide) (gas_cons (gap_name (by decide) (gas_nil ?_)))))
        repeat (wtm_at "d")
        refine opp_ix (i := 1) (.tup _) rfl ⟨rfl, ?_⟩
        repeat (wtm_at "d")
        rfl
      rw [List.length_map]
      repeat (wtm_at "e")
      refine sd_for (vs := [1]) (wfp_seq ?_)
      repeat (wtm_at "d")
      refine ⟨_, .lst _, fun i ρ => ∃ u1 u6 u7 u8 u9 pl o, ρ = [s, u1, .dat (.lst ((rowOf cs).map fun k : Nat => .int (k : Int))), .seq .own (List.map Pl.dd pl), .dat (.dK (kvsOf ms)), .dat (.int ((o : Nat) : Int)), u6, u7, u8, u9] ∧ eFold ms ((rowOf cs).drop i) pl o = eplan cs ms ∧ pl.length ≤ 100 + i, ⟨_, _, _, _, _, eBase ms, 0, rfl, rfl, by omega⟩, fun i ρ hi hI => ?_, fun ρ hI => ?_⟩
      · obtain ⟨u1, u6, u7, u8, u9, pl, o, rfl, hfo, hpl⟩ := hI
        have hi : i < (rowOf cs).length := by simpa using hi
        have hi9 : i < 9 := by rw [rowOf_len] at hi; omega
        rw [items_mapg (get_getD hi)]
        have hdr : (rowOf cs).drop i = (rowOf cs).getD i 0 :: (rowOf cs).drop (i + 1) := by
          rw [List.drop_eq_getElem_cons hi, List.getD_eq_getElem?_getD, List.getElem?_eq_getElem hi]; rfl
        have hmem : (rowOf cs).getD i 0 ∈ ms := (hm _).mpr (List.mem_of_getElem? (get_getD hi))
        rw [hdr] at hfo
        generalize (rowOf cs).getD i 0 = one at hfo hmem
        have hv := kvs_val hp m1 hmem
        refine gap_name (by decide) ?_
        repeat (wtm_at "d")
        refine opp_eq (n := 0) (by decide) (nn _) (nn _) rfl rfl fun q hq => ?_
        have hq : q = true ↔ o = 0 := hq.trans ⟨fun z => by have := DD.int.inj z; omega, fun z => by rw [z]; rfl⟩
        refine ⟨_, rfl, fun h => ?_, fun h => ?_⟩
        · have ho := hq.mp h
          subst ho
          repeat (wtm_at "e")
          refine evp_dget ?_
          repeat (wtm_at "d")
          refine ⟨_, rfl, ?_⟩
          repeat (wtm_at "d")
          refine ⟨_, _, rfl, hv, ?_⟩
          repeat (wtm_at "d")
          exact ⟨_, _, _, _, _, pl, posOf ms one, rfl, hfo, by omega⟩
        · have ho : ¬ o = 0 := fun z => by rw [hq.mpr z] at h; cases h
          have hfo : eFold ms ((rowOf cs).drop (i + 1)) (pl ++ [.m 0 o (posOf ms one)]) pl.length = eplan cs ms := by
            rw [← hfo]
            show _ = if o = 0 then _ else _
            rw [if_neg ho]
          repeat (wtm_at "d")
          refine sd_appE (ds := List.map Pl.dd pl) (List.map Pl.dd (pl ++ [.m 0 o (posOf ms one)])) rfl (by rw [List.length_map]; omega) ?_
          repeat (wtm_at "d")
          refine evp_dget ?_
          repeat (wtm_at "d")
          refine ⟨_, rfl, ?_⟩
          repeat (wtm_at "d")
          refine ⟨_, _, rfl, hv, ?_⟩
          repeat (wtm_at "d")
          refine ⟨_, rfl, by show 4 ≤ 100000; decide, ?_⟩
          repeat (wtm_at "d")
          refine ⟨by rw [List.map_append]; rfl, ?_⟩
          repeat (wtm_at "e")
          refine evp_var (s := .seq .own (List.map Pl.dd (pl ++ [.m 0 o (posOf ms one)]))) rfl (fun h => nomatch h) ?_
          repeat (wtm_at "d")
          refine cap_len (.seq _ _) ?_
          repeat (wtm_at "d")
          have e : ((List.map Pl.dd (pl ++ [Pl.m 0 o (posOf ms one)])).length : Int) - 1 = (pl.length : Int) := by
            rw [List.length_map, List.length_append]
            show ((pl.length + 1 : Nat) : Int) - 1 = _
            omega
          rw [e]
          exact ⟨_, _, _, _, _, pl ++ [.m 0 o (posOf ms one)], pl.length, rfl, hfo, by rw [List.length_append]; show pl.length + 1 ≤ _; omega⟩
      · obtain ⟨u1, u6, u7, u8, u9, pl, o, rfl, hfo, hpl⟩ := hI
        rw [List.length_map, List.drop_length] at hfo
        have hfo : pl = eplan cs ms := hfo
        subst hfo
        show SD W _ _ _
        repeat (wtm_at "d")
        refine evp_var (s := .seq .own (List.map Pl.dd (eplan cs ms))) rfl (fun h => nomatch h) ?_
        repeat (wtm_at "d")
        refine cap_tuple (.seq _ _) ?_
        repeat (wtm_at "d")
        exact hR
    · refine ⟨fun _ => ⟨fun _ => ?_, fun h => Bool.noConfusion h⟩, fun h => Bool.noConfusion h⟩
      refine sd_raise hE ?_
      repeat (wtm_at "d")
      refine ⟨_, rfl, hbad (.inl ?_)⟩
      have := of_decide_eq_false c1
      omega
theorem ok_elder_plan (T : Txe P K mg A) : FD P w K mg base (L2.CX P w) 5 A.elder_plan ["counts"] (spE NoM AnyJ (c_elder_plan A)) := (okF_elder_plan T).fd
end Dl

set_option Elab.async false
set_option linter.all false
set_option maxRecDepth 100000
set_option maxHeartbeats 1000000
namespace Dl
open PySem PySem.Spec PyProof.Rows L2
local macro_rules | `(tactic| wtm_at "d") => `(tactic| first
  | with_reducible refine sd_seq ?_ | with_reducible refine sd_if ?_ | with_reducible refine sd_ret ?_
  | with_reducible refine evp_op ?_ | with_reducible refine evp_un ?_ | with_reducible refine evp_cb ?_ | with_reducible refine evp_tupD ?_
  | with_reducible refine evp_andV ?_ | with_reducible refine evp_orV ?_ | with_reducible refine evp_notV ?_ | with_reducible refine evp_if ?_
  | with_reducible refine evt_test ?_ | with_reducible refine evt_B ?_ | with_reducible refine evt_and ?_ | with_reducible refine evt_or ?_ | with_reducible refine evt_not ?_
  | with_reducible refine eva_cons ?_ | with_reducible refine eva_nil ?_
  | with_reducible refine evp_int ?_ | with_reducible refine evp_str ?_ | with_reducible refine evp_bl ?_ | with_reducible refine evp_non ?_ | with_reducible refine evp_any ?_
  | (with_reducible refine evp_isv ?_; refine evp_dat rfl ?_)
  | with_reducible refine evp_callP ?_ | with_reducible refine evp_chain ?_
  | with_reducible refine sd_next ?_
  | with_reducible refine opp_add ?_ | with_reducible refine opp_sub ?_ | with_reducible refine opp_lt ?_ | with_reducible refine opp_le ?_ | with_reducible refine opp_gt ?_ | with_reducible refine opp_ge ?_
  | with_reducible refine opp_isN ?_ | with_reducible refine opp_notN ?_ | with_reducible refine unp_neg ?_
  | with_reducible refine ex_bl ?_ | with_reducible refine ex_dat ?_ | with_reducible refine ex_int ?_)
local macro_rules | `(tactic| wtm_at "e") => `(tactic| first | wtm_at "d" | with_reducible refine sd_set ?_)
variable {P : Program} {w : World} {K : PySem.W.Frag} {mg : Str → Option Value} {base : Heap} {A : Ads}
abbrev c_plan_counts : List Slot → (DD → Prop) → Prop := fun ss R => ∃ M s pl rs, ss = [.dat (.int ((M : Nat) : Int)), s] ∧ LeS s (List.map Pl.dd pl) ∧ 1 ≤ M ∧ M ≤ 12 ∧ 1 ≤ pl.length ∧ pl.length ≤ 20 ∧ badAt (M : Int) 0 (pl.map Pl.stp) = none ∧ RowsOk M pl rs ∧ R (.tup (rs.map rowD))
theorem okMany_nat {M : Nat} (h1 : 1 ≤ M) (h2 : M ≤ 12) : okMany (.int (M : Int)) = true := by
  show (decide (1 ≤ (M : Int)) && decide ((M : Int) ≤ 12)) = true
  rw [decide_eq_true (by omega), decide_eq_true (by omega)]; rfl
theorem ok_plan_counts (T : Txe P K mg A) : FD P w K mg base CX0 6 A.plan_counts ["many", "plan"] (spP c_plan_counts) := by
  obtain ⟨fd, F⟩ := T.F_plan_counts
  obtain ⟨k_step_counts, fd_step_counts, G_step_counts, B_step_counts⟩ := ok_step_counts (P := P) (w := w) (base := base) T.toTxt
  obtain ⟨k_need_plan, fd_need_plan, G_need_plan, B_need_plan⟩ := ok_need_plan (P := P) (w := w) (base := base) T
  refine ⟨F.kp, fd, ?_, F.binds fun _ _ _ _ _ _ us hl => match us, hl with | [_, _], _ => rfl⟩
  refine fn_sd F sc_plan_counts no_mut no_mut2 ?len (by decide) fun cdv B outer s H E hr => ⟨_,
    (pss_one (ps_ret (pe_call G_step_counts (hr.mono (by decide)) (by rfl) T.g_step_counts k_step_counts B_step_counts .nil pass0 (pa_cons (pv 0) (pa_cons (pe_call G_need_plan (hr.mono (by decide)) (by rfl) T.g_need_plan k_need_plan B_need_plan .nil passL (pa_cons (pv 0) (pa_cons (pv 1) pa_nil))) pa_nil))))), ?body⟩
  case len => intro ss R RE hc; (first | (obtain ⟨_, rfl, _⟩ := hc; rfl) | (obtain ⟨_, _, rfl, _⟩ := hc; rfl) | (obtain ⟨_, _, _, rfl, _⟩ := hc; rfl) | (obtain ⟨_, _, _, _, rfl, _⟩ := hc; rfl) | (obtain ⟨_, _, _, _, _, rfl, _⟩ := hc; rfl) | (obtain ⟨_, _, _, _, _, _, rfl, _⟩ := hc; rfl) | (obtain ⟨_, _, _, _, _, _, _, rfl, _⟩ := hc; rfl) | (obtain ⟨_, _, _, _, _, _, _, _, rfl, _⟩ := hc; rfl) | (obtain ⟨_, _, _, _, _, _, _, _, _, rfl, _⟩ := hc; rfl) | (obtain ⟨_, _, _, _, _, _, _, _, _, _, rfl, _⟩ := hc; rfl) | (obtain ⟨_, _, _, _, _, _, _, _, _, _, _, rfl, _⟩ := hc; rfl))
  case body =>
    rintro W ss R RE _ _ ⟨M, s, pl, rs, rfl, hs, h1, h12, hp1, hp2, hbad, hok, hR⟩
    obtain ⟨ks, hks, _⟩ := kd_seq (le_seq hs)
    have hpl : (List.map Pl.stp pl).length = pl.length := by simp
    repeat (wtm_at "e")
    refine evp_call0 ?_
    repeat (wtm_at "d")
    refine evp_seq rfl (le_seq hs) ?_
    repeat (wtm_at "d")
    refine ⟨by have := ok1 hks; simpa [okArgs] using this, _, _, .int, _, List.map Pl.stp pl, rfl, rfl, le_arg (le_lend hs), stpAll_pl pl, by omega, by omega, fun h => ?_, fun M' hM _ => ⟨fun _ => ?_, fun at' h => ?_⟩⟩
    · rw [show okMany (slotPy (toArg (.dat (.int (M : Int))))) = true from okMany_nat h1 h12] at h; cases h
    · have hM : M' = (M : Int) := (DD.int.inj hM).symm
      subst hM
      have edd : (List.map (fun st => DD.tup st.ds) (List.map Pl.stp pl)) = List.map Pl.dd pl := by rw [List.map_map]; rfl
      rw [edd]
      repeat (wtm_at "d")
      exact ⟨rfl, M, pl, rs, rfl, by omega, by omega, hok, _, rfl, hR⟩
    · have hM : M' = (M : Int) := (DD.int.inj hM).symm
      subst hM
      rw [hbad] at h; cases h
end Dl

set_option Elab.async false
set_option linter.all false
set_option maxRecDepth 100000
set_option maxHeartbeats 1000000
namespace Dl
open PySem PySem.Spec PyProof.Rows L2
local macro_rules | `(tactic| wtm_at "d") => `(tactic| first
  | with_reducible refine sd_seq ?_ | with_reducible refine sd_if ?_ | with_reducible refine sd_ret ?_
  | with_reducible refine evp_op ?_ | with_reducible refine evp_un ?_ | with_reducible refine evp_cb ?_ | with_reducible refine evp_tupD ?_
  | with_reducible refine evp_andV ?_ | with_reducible refine evp_orV ?_ | with_reducible refine evp_notV ?_ | with_reducible refine evp_if ?_
  | with_reducible refine evt_test ?_ | with_reducible refine evt_B ?_ | with_reducible refine evt_and ?_ | with_reducible refine evt_or ?_ | with_reducible refine evt_not ?_
  | with_reducible refine eva_cons ?_ | with_reducible refine eva_nil ?_
  | with_reducible refine evp_int ?_ | with_reducible refine evp_str ?_ | with_reducible refine evp_bl ?_ | with_reducible refine evp_non ?_ | with_reducible refine evp_any ?_
  | (with_reducible refine evp_isv ?_; refine evp_dat rfl ?_)
  | with_reducible refine evp_callP ?_ | with_reducible refine evp_chain ?_
  | with_reducible refine sd_next ?_
  | with_reducible refine opp_add ?_ | with_reducible refine opp_sub ?_ | with_reducible refine opp_lt ?_ | with_reducible refine opp_le ?_ | with_reducible refine opp_gt ?_ | with_reducible refine opp_ge ?_
  | with_reducible refine opp_isN ?_ | with_reducible refine opp_notN ?_ | with_reducible refine unp_neg ?_
  | with_reducible refine ex_bl ?_ | with_reducible refine ex_dat ?_ | with_reducible refine ex_int ?_)
local macro_rules | `(tactic| wtm_at "e") => `(tactic| first | wtm_at "d" | with_reducible refine sd_set ?_)
variable {P : Program} {w : World} {K : PySem.W.Frag} {mg : Str → Option Value} {base : Heap} {A : Ads}
/-! _law_elders: the law's own elders -/
def nD (l : List Nat) : List DD := l.map fun k : Nat => DD.int (k : Int)
def rowN (l : List Nat) : DD := .lst (nD l)
def PlRef (pl : List Pl) : Prop := ∀ (i : Nat) (p : Pl), pl[i]? = some p → match p with | .v _ => True | .m b c y => b < i ∧ c < i ∧ y < i
def isV : Pl → Bool | .v _ => true | .m _ _ _ => false
def gP (pl : List Pl) (j : Nat) : Pl := pl.getD j (.v 0)
def toldAt (pl : List Pl) (i : Nat) : List Nat := (List.range i).filter fun j => isV (gP pl j)
def sameAt (pl : List Pl) (l : List Nat) (p : Pl) : List Nat := l.filter fun j => decide (gP pl j = p)
def addNew (row l : List Nat) : List Nat := row ++ l.filter fun k => !decide (k ∈ row)
def rowAt (pl : List Pl) (rows : List (List Nat)) (i : Nat) : Pl → List Nat
  | .v n => ([i] ++ sameAt pl (toldAt pl i) (.v n)) ++ (if 0 < n then sameAt pl (toldAt pl i) (.v 0) else [])
  | .m b c y => addNew (addNew (addNew [i] (rows.getD b [])) (rows.getD c [])) (rows.getD y [])
def lRows (pl : List Pl) : Nat → List (List Nat)
  | 0 => []
  | i + 1 => lRows pl i ++ [rowAt pl (lRows pl i) i (gP pl i)]
def rowsOf (pl : List Pl) : List (List Nat) := lRows pl pl.length
theorem gP_get {pl : List Pl} {j : Nat} (h : j < pl.length) : pl[j]? = some (gP pl j) := by
  unfold gP
  rw [List.getD_eq_getElem?_getD, List.getElem?_eq_getElem h]; rfl
theorem gP_dd {pl : List Pl} {j : Nat} (h : j < pl.length) : (pl.map Pl.dd)[j]? = some (gP pl j).dd := by rw [List.getElem?_map, gP_get h]; rfl
theorem told_lt {pl : List Pl} {i j : Nat} (h : j ∈ toldAt pl i) : j < i := List.mem_range.mp (List.mem_filter.mp h).1
theorem told_v {pl : List Pl} {i j : Nat} (h : j ∈ toldAt pl i) : isV (gP pl j) = true := (List.mem_filter.mp h).2
theorem told_succ {pl : List Pl} {i : Nat} : toldAt pl (i + 1) = toldAt pl i ++ (if isV (gP pl i) then [i] else []) := by
  unfold toldAt
  rw [List.range_succ, List.filter_append, List.filter_cons, List.filter_nil]
theorem told_len {pl : List Pl} {i : Nat} : (toldAt pl i).length ≤ i := by
  have := List.length_filter_le (fun j => isV (gP pl j)) (List.range i)
  rw [List.length_range] at this
  exact this
theorem lRows_len {pl : List Pl} : ∀ {i : Nat}, (lRows pl i).length = i
  | 0 => rfl
  | i + 1 => by rw [lRows, List.length_append, lRows_len]; rfl
theorem nodup_len : ∀ {n : Nat} {l : List Nat}, l.Nodup → (∀ x ∈ l, x < n) → l.length ≤ n
  | 0, l, _, h => by
    cases l with
    | nil => exact Nat.le_refl 0
    | cons a l => exact absurd (h a List.mem_cons_self) (Nat.not_lt_zero a)
  | n + 1, l, hn, h => by
    by_cases m : n ∈ l
    · have e := nodup_len (n := n) (l := l.erase n) (hn.erase n) fun x hx => by
        have := (hn.mem_erase_iff.mp hx)
        have := h x this.2
        omega
      rw [List.length_erase_of_mem m] at e
      omega
    · have := nodup_len (n := n) hn fun x hx => by
        have := h x hx
        have : x ≠ n := fun z => m (by rw [← z]; exact hx)
        omega
      omega
theorem addNew_nodup {row l : List Nat} (h : row.Nodup) (k : l.Nodup) : (addNew row l).Nodup := by
  unfold addNew
  refine List.nodup_append.mpr ⟨h, k.filter _, fun a ha b hb e => ?_⟩
  have := (List.mem_filter.mp hb).2
  rw [← e] at this
  simp [ha] at this
theorem mem_addNew {row l : List Nat} {x : Nat} : x ∈ addNew row l ↔ x ∈ row ∨ x ∈ l := by
  unfold addNew
  rw [List.mem_append, List.mem_filter]
  by_cases h : x ∈ row <;> simp [h]
theorem told_nodup {pl : List Pl} {i : Nat} : (toldAt pl i).Nodup := List.nodup_range.filter _
theorem rowAt_ok {pl : List Pl} {rows : List (List Nat)} {i : Nat} (h : ∀ r ∈ rows, r.Nodup ∧ ∀ x ∈ r, x < i) (p : Pl) : (rowAt pl rows i p).Nodup ∧ ∀ x ∈ rowAt pl rows i p, x < i + 1 := by
  have hg : ∀ b, (rows.getD b []).Nodup ∧ ∀ x ∈ rows.getD b [], x < i := fun b => by
    rw [List.getD_eq_getElem?_getD]
    cases e : rows[b]? with
    | none => exact ⟨List.nodup_nil, fun x hx => by cases hx⟩
    | some r => exact h r (List.mem_of_getElem? e)
  cases p with
  | v n =>
    have hs : ∀ q, (sameAt pl (toldAt pl i) q).Nodup ∧ ∀ x ∈ sameAt pl (toldAt pl i) q, x < i ∧ gP pl x = q := fun q =>
      ⟨told_nodup.filter _, fun x hx => ⟨told_lt (List.mem_filter.mp hx).1, of_decide_eq_true (List.mem_filter.mp hx).2⟩⟩
    have h1 : ([i] ++ sameAt pl (toldAt pl i) (.v n)).Nodup := List.nodup_append.mpr ⟨by simp, (hs _).1, fun a ha b hb e => by
      have := ((hs _).2 b hb).1
      have : a = i := by simpa using ha
      omega⟩
    have b1 : ∀ x ∈ [i] ++ sameAt pl (toldAt pl i) (.v n), x < i + 1 := fun x hx => by
      rcases List.mem_append.mp hx with z | z
      · have : x = i := by simpa using z
        omega
      · have := ((hs _).2 x z).1
        omega
    show (([i] ++ sameAt pl (toldAt pl i) (.v n)) ++ (if 0 < n then sameAt pl (toldAt pl i) (.v 0) else [])).Nodup ∧ ∀ x ∈ ([i] ++ sameAt pl (toldAt pl i) (.v n)) ++ (if 0 < n then sameAt pl (toldAt pl i) (.v 0) else []), x < i + 1
    by_cases hn : 0 < n
    · rw [if_pos hn]
      refine ⟨List.nodup_append.mpr ⟨h1, (hs _).1, fun a ha b hb e => ?_⟩, fun x hx => ?_⟩
      · have hb := (hs _).2 b hb
        rcases List.mem_append.mp ha with z | z
        · have : a = i := by simpa using z
          omega
        · have ha := (hs _).2 a z
          rw [e, hb.2] at ha
          have := Pl.v.inj ha.2
          omega
      · rcases List.mem_append.mp hx with z | z
        · exact b1 x z
        · have := ((hs _).2 x z).1
          omega
    · rw [if_neg hn, List.append_nil]
      exact ⟨h1, b1⟩
  | m b c y =>
    unfold rowAt
    refine ⟨addNew_nodup (addNew_nodup (addNew_nodup (by simp) (hg b).1) (hg c).1) (hg y).1, fun x hx => ?_⟩
    rw [mem_addNew, mem_addNew, mem_addNew] at hx
    rcases hx with ((z | z) | z) | z
    · have : x = i := by simpa using z
      omega
    · have := (hg b).2 x z; omega
    · have := (hg c).2 x z; omega
    · have := (hg y).2 x z; omega
theorem lRows_ok {pl : List Pl} : ∀ {i : Nat}, ∀ r ∈ lRows pl i, r.Nodup ∧ ∀ x ∈ r, x < i
  | 0, r, hr => by cases hr
  | i + 1, r, hr => by
    rw [lRows] at hr
    rcases List.mem_append.mp hr with z | z
    · have := lRows_ok (i := i) r z
      exact ⟨this.1, fun x hx => Nat.lt_succ_of_lt (this.2 x hx)⟩
    · have : r = rowAt pl (lRows pl i) i (gP pl i) := by simpa using z
      rw [this]
      exact rowAt_ok lRows_ok _
theorem range_filter {β : Type} {g : Nat → Bool} {f : Nat → β} (l : List Nat) : ((List.range l.length).filter fun i => g (l.getD i 0)).map (fun i => f (l.getD i 0)) = (l.filter g).map f := by
  have e : l = (List.range l.length).map fun i => l.getD i 0 := by
    have := range_getD (f := fun x => x) l
    simpa using this.symm
  conv => rhs; rw [e]
  rw [List.filter_map, List.map_map]
  rfl
theorem pl_dd1 (p : Pl) : pl 1 p.dd = true := by
  cases p with
  | v n =>
    show (PyData.strOk ("version" : Str) && (true && true)) = true
    rw [show PyData.strOk ("version" : Str) = true by decide +kernel]; rfl
  | m b c y =>
    show (PyData.strOk ("merge" : Str) && (true && (true && (true && true)))) = true
    rw [show PyData.strOk ("merge" : Str) = true by decide +kernel]; rfl
theorem dd_inj {p q : Pl} (h : p.dd = q.dd) : p = q := by
  cases p <;> cases q <;> (have h := DD.tup.inj h; simp [Pl.stp, Stp.ds] at h)
  · have : _ = _ := Int.ofNat.inj h
    rw [this]
  · obtain ⟨h1, h2, h3⟩ := h
    have h1 : _ = _ := Int.ofNat.inj h1
    have h2 : _ = _ := Int.ofNat.inj h2
    have h3 : _ = _ := Int.ofNat.inj h3
    rw [h1, h2, h3]
theorem opp_new {W : Wd} {r : R2} {s t : Slot} {P : Slot → Prop} (h : OpF W r s t fun ds => P (.dat (.lst ds))) : OpP W r s t P := fun G H x y c vx vy Q q =>
  h G H x y c vx vy _ fun p xs G2 H2 ds f hp gp h2 ra k => by
    have m : Same G2 (upd G2 p (.lst xs)) := fun a u e => by
      have : a ≠ p := fun z => by subst z; rw [gp] at e; cases e
      rw [upd_ne this]; exact e
    exact q _ _ _ _ (f.settle hp gp h2) (vd (Rp.lst upd_same (ra.mono m))) k
theorem nD_len {l : List Nat} : (nD l).length = l.length := by simp [nD]
theorem nD_app {l m : List Nat} : nD (l ++ m) = nD l ++ nD m := by simp [nD]
theorem same_len {pl : List Pl} {i : Nat} {p : Pl} : (nD (sameAt pl (toldAt pl i) p)).length ≤ i := by
  rw [nD_len]
  exact Nat.le_trans (List.length_filter_le _ _) told_len
theorem nD_ints (l : List Nat) : nD l = (l.map fun k : Nat => (k : Int)).map DD.int := by rw [List.map_map]; rfl
theorem mem_ints {l : List Nat} {k : Nat} : ((k : Int) ∈ l.map fun k : Nat => (k : Int)) ↔ k ∈ l := by
  refine ⟨fun z => ?_, fun z => List.mem_map.mpr ⟨k, z, rfl⟩⟩
  obtain ⟨j, hj, e⟩ := List.mem_map.mp z
  have : j = k := by omega
  rw [← this]; exact hj
abbrev c__law_elders : List Slot → (DD → Prop) → Prop := fun ss R => ∃ s pl, ss = [s] ∧ LeS s (List.map Pl.dd pl) ∧ PlRef pl ∧ pl.length ≤ 20 ∧ R (.lst ((rowsOf pl).map rowN))
theorem ok__law_elders (T : Txt K mg A) : FD P w K mg base CX0 1 A._law_elders ["_law_plan_here"] (spP c__law_elders) := by
  obtain ⟨fd, F⟩ := T.F__law_elders
  refine ⟨F.kp, fd, ?_, F.binds fun _ _ _ _ _ _ us hl => match us, hl with | [_], _ => rfl⟩
  refine fn_sd F sc__law_elders no_mut no_mut2 ?len (by decide) fun cdv B outer s H E hr => ⟨_,
    (pss_cons (ps_par (i := 1) (j := 2) (by rfl) sc__law_elders.nd rfl rfl (by decide) rfl rfl (pa_cons (pe_lst pa_nil) (pa_cons (pe_lst pa_nil) pa_nil)) (by rfl))
      (pss_cons (ps_for PassesOwn.never rfl (pi_range1 (by rfl) T.n_range (pa_cons (pe_callB (r := cLen K) call_cLen (by rfl) T.n_len (by decide +kernel) (pa_cons (pv 0) pa_nil)) pa_nil)) (pg_name (i := 3) sc__law_elders.nd rfl (Or.inr rfl))
      (pss_cons (ps_set (i := 4) sc__law_elders.nd rfl (Or.inr rfl) (pe_lst (pa_cons (pv 3) pa_nil)))
      (pss_cons (ps_if (pt_cmpR (r := rEqD K) (op_eqD hr.units) (pe_ix (r := rIx K) ix_seq (pe_ix (r := rIx K) ix_seq (pv 0) (pv 3) (fun _ _ => rfl)) pe_int (fun _ _ => rfl)) pe_str (nomark _))
      (pss_cons (ps_setLc (i := 6) (own := [("_law_one", 5)]) (g := (gName 5)) (by rfl) sc__law_elders.nd rfl rfl (sw_true rfl rfl rfl (by decide +kernel)) (pi_seqK (K := K) rfl (pv 1)) (blkOk_by (own := [("_law_one", 5)]) (N := N__law_elders) (sc := defScope s__law_elders) (by decide +kernel)) (fun _ _ _ _ _ => (pg_name (i := 5) sc__law_elders.nd rfl (Or.inl rfl))) (fun _ _ _ _ _ => (pts_one (pt_cmpR (r := rEqD K) (op_eqD hr.units) (pe_ix (r := rIx K) ix_seq (pv 0) (pv 5) (fun _ _ => rfl)) (pe_ix (r := rIx K) ix_seq (pv 0) (pv 3) (fun _ _ => rfl)) (nomark _)))) (fun _ _ _ _ _ => (pv 5)))
      (pss_cons (ps_set (i := 4) sc__law_elders.nd rfl (Or.inr rfl) (pe_op op_addU (pe_op op_addU (pv 4) (pv 6)) (pe_ifExp (pt_cmpR op_gtI (pe_ix (r := rIx K) ix_seq (pe_ix (r := rIx K) ix_seq (pv 0) (pv 3) (fun _ _ => rfl)) pe_int (fun _ _ => rfl)) pe_int (nomark _)) (pe_lc (own := [("_law_one", 5)]) (g := (gName 5)) (by rfl) sc__law_elders.nd (pi_seqK (K := K) rfl (pv 1)) (blkOk_by (own := [("_law_one", 5)]) (N := N__law_elders) (sc := defScope s__law_elders) (by decide +kernel)) (fun _ _ _ _ _ => (pg_name (i := 5) sc__law_elders.nd rfl (Or.inl rfl))) (fun _ _ _ _ _ => (pts_one (pt_cmpR (r := rEqD K) (op_eqD hr.units) (pe_ix (r := rIx K) ix_seq (pe_ix (r := rIx K) ix_seq (pv 0) (pv 5) (fun _ _ => rfl)) pe_int (fun _ _ => rfl)) pe_int (nomark _)))) (fun _ _ _ _ _ => (pv 5))) (pe_lst pa_nil))))
      (pss_one (ps_expr (pe_bm PySem.F.plainAttrs_list PySem.F.slot_list_append PySem.F.type_list_append mt_append (pv 1) (pa_cons (pv 3) pa_nil))))))
      (pss_one (ps_for PassesOwn.never rfl (pi_seqK (K := K) rfl (pe_slice (r := rSlU K) sl_U (pe_ix (r := rIx K) ix_seq (pv 0) (pv 3) (fun _ _ => rfl)) (po_some pe_int) po_none)) (pg_name (i := 5) sc__law_elders.nd rfl (Or.inl rfl))
      (pss_one (ps_set (i := 4) sc__law_elders.nd rfl (Or.inr rfl) (pe_op op_addU (pv 4) (pe_lc (own := [("_law_elder", 7)]) (g := (gName 7)) (by rfl) sc__law_elders.nd (pi_seqK (K := K) rfl (pe_ix (r := rIx K) ix_seq (pv 2) (pv 5) (fun _ _ => rfl))) (blkOk_by (own := [("_law_elder", 7)]) (N := N__law_elders) (sc := defScope s__law_elders) (by decide +kernel)) (fun _ _ _ _ _ => (pg_name (i := 7) sc__law_elders.nd rfl (Or.inl rfl))) (fun _ _ _ _ _ => (pts_one (pt_cmpR (r := rIn K true) op_notIn_seq (pv 7) (pv 4) (by rfl)))) (fun _ _ _ _ _ => (pv 7)))))))))
      (pss_one (ps_expr (pe_bm PySem.F.plainAttrs_list PySem.F.slot_list_append PySem.F.type_list_append mt_append (pv 2) (pa_cons (pv 4) pa_nil)))))))
      (pss_one (ps_ret (pv 2))))), ?body⟩
  case len => intro ss R RE hc; (first | (obtain ⟨_, rfl, _⟩ := hc; rfl) | (obtain ⟨_, _, rfl, _⟩ := hc; rfl) | (obtain ⟨_, _, _, rfl, _⟩ := hc; rfl) | (obtain ⟨_, _, _, _, rfl, _⟩ := hc; rfl) | (obtain ⟨_, _, _, _, _, rfl, _⟩ := hc; rfl) | (obtain ⟨_, _, _, _, _, _, rfl, _⟩ := hc; rfl) | (obtain ⟨_, _, _, _, _, _, _, rfl, _⟩ := hc; rfl) | (obtain ⟨_, _, _, _, _, _, _, _, rfl, _⟩ := hc; rfl) | (obtain ⟨_, _, _, _, _, _, _, _, _, rfl, _⟩ := hc; rfl) | (obtain ⟨_, _, _, _, _, _, _, _, _, _, rfl, _⟩ := hc; rfl) | (obtain ⟨_, _, _, _, _, _, _, _, _, _, _, rfl, _⟩ := hc; rfl))
  case body =>
    rintro W ss R RE _ _ ⟨s, pl, rfl, hs, hok, hpl, hR⟩
    have hml : (List.map Pl.dd pl).length = pl.length := by simp
    refine sd_seq (sd_parOwn (by decide) (evf_lstD ?_))
    repeat (wtm_at "d")
    refine ⟨_, rfl, by decide, evf_lstD ?_⟩
    repeat (wtm_at "d")
    refine ⟨_, rfl, by decide, ?_⟩
    repeat (wtm_at "d")
    refine sd_for (vs := [3]) (wfp_rng1 ?_)
    repeat (wtm_at "d")
    refine evp_seq rfl (le_seq hs) ?_
    repeat (wtm_at "d")
    refine cap_len (seqS_lend (le_seq hs)) ?_
    rw [hml]
    repeat (wtm_at "d")
    refine ⟨_, rfl, by omega, by omega, fun i ρ => ∃ u3 u4 u5 u6 u7, ρ = [s, .seq .own (nD (toldAt pl i)), .seq .own ((lRows pl i).map rowN), u3, u4, u5, u6, u7], ⟨_, _, _, _, _, rfl⟩, fun i ρ hi hI => ?_, fun ρ hI => ?_⟩
    · obtain ⟨u3, u4, u5, u6, u7, rfl⟩ := hI
      have hi : i < pl.length := by simpa using hi
      have tl : (nD (toldAt pl i)).length ≤ 20 := by
        have := told_len (pl := pl) (i := i)
        unfold nD; rw [List.length_map]; omega
      have rl : ((lRows pl i).map rowN).length < 100000 := by rw [List.length_map, lRows_len]; omega
      have finR : (lRows pl i).map rowN ++ [rowN (rowAt pl (lRows pl i) i (gP pl i))] = (lRows pl (i + 1)).map rowN := by
        rw [lRows, List.map_append]; rfl
      have finT := told_succ (pl := pl) (i := i)
      have hrow := rowAt_ok (pl := pl) (lRows_ok (pl := pl) (i := i)) (gP pl i)
      have hg := gP_dd hi
      refine gap_name (by decide) ?_
      repeat (wtm_at "e")
      refine evp_new (evf_lstD ?_)
      repeat (wtm_at "d")
      refine ⟨_, rfl, by show 1 ≤ 100000; decide, ?_⟩
      repeat (wtm_at "d")
      refine evp_seq rfl (le_seq hs) ?_
      repeat (wtm_at "d")
      refine opp_ixn (seqS_lend (le_seq hs)) hg ?_
      have hrefs := hok i _ (gP_get hi)
      generalize hp : gP pl i = p at hg hrefs finR finT hrow
      cases p with
      | v n =>
        repeat (wtm_at "d")
        refine opp_ix (i := 0) (.tup _) rfl ?_
        repeat (wtm_at "d")
        refine opp_eq (n := 0) (by decide) (nn _) (nn _) (by decide +kernel) (by decide +kernel) fun q hq => ?_
        have hq : q = true := hq.mpr rfl
        subst hq
        refine ⟨_, rfl, fun _ => ?_, fun h => Bool.noConfusion h⟩
        have comp : ∀ (q : Pl) (j : Nat), j < (nD (toldAt pl i)).length → itemsOf (nD (toldAt pl i)) j = .int (((toldAt pl i).getD j 0 : Nat) : Int) ∧ (toldAt pl i).getD j 0 < i ∧ (toldAt pl i).getD j 0 < pl.length ∧ isV (gP pl ((toldAt pl i).getD j 0)) = true := fun q j hj => by
          have hj : j < (toldAt pl i).length := by simpa [nD] using hj
          have m := List.mem_of_getElem? (get_getD hj)
          have := told_lt m
          exact ⟨items_mapg (get_getD hj), this, by omega, told_v m⟩
        repeat (wtm_at "e")
        refine evp_new (evf_lcm (wip_seq ?_))
        refine evp_var (s := .seq .own (nD (toldAt pl i))) rfl (fun h => nomatch h) ?_
        refine ⟨_, .seq _ _, by omega, fun j => decide (gP pl ((toldAt pl i).getD j 0) = .v n), fun j => .int (((toldAt pl i).getD j 0 : Nat) : Int), fun j hj => ?_, ?_⟩
        · obtain ⟨e, h1, h2, h3⟩ := comp (.v n) j hj
          dsimp only
          rw [e]
          generalize (toldAt pl i).getD j 0 = k at h1 h2 h3
          refine gap_name (by decide) ?_
          repeat (wtm_at "d")
          refine evp_seq rfl (le_seq hs) ?_
          repeat (wtm_at "d")
          refine opp_ixn (seqS_lend (le_seq hs)) (gP_dd h2) ?_
          repeat (wtm_at "d")
          refine evp_seq rfl (le_seq hs) ?_
          repeat (wtm_at "d")
          refine opp_ixn (seqS_lend (le_seq hs)) hg ?_
          refine opp_eq (n := 1) (by decide) (nn _) (nn _) (pl_dd1 _) (pl_dd1 _) fun q hq => ?_
          have hq : q = true ↔ gP pl k = .v n := hq.trans ⟨fun z => dd_inj z, fun z => by rw [z]⟩
          refine ⟨q, rfl, Bool.eq_iff_iff.mpr (hq.trans (by simp)), fun _ => ?_⟩
          repeat (wtm_at "d")
          rfl
        rw [show (nD (toldAt pl i)).length = (toldAt pl i).length by simp [nD], range_filter (g := fun k => decide (gP pl k = .v n)) (f := fun k : Nat => DD.int (k : Int))]
        repeat (wtm_at "e")
        refine opp_new (opf_cat (.lst _) (.lst _) (by have := same_len (pl := pl) (i := i) (p := .v n); show 1 + (nD (sameAt pl (toldAt pl i) (.v n))).length ≤ 100000; omega) ?_)
        repeat (wtm_at "d")
        refine evp_seq rfl (le_seq hs) ?_
        repeat (wtm_at "d")
        refine opp_ixn (seqS_lend (le_seq hs)) hg ?_
        repeat (wtm_at "d")
        refine opp_ix (i := 1) (.tup _) rfl ?_
        repeat (wtm_at "d")
        have l1 : ([DD.int (i : Int)] ++ nD (sameAt pl (toldAt pl i) (.v n))).length ≤ 50 := by
          have := same_len (pl := pl) (i := i) (p := .v n)
          rw [List.length_append]
          show 1 + _ ≤ _
          omega
        refine ⟨fun hn => ?_, fun hn => ?_⟩
        · have hn : 0 < n := by have := of_decide_eq_true hn; omega
          refine evp_new (evf_lcm (wip_seq ?_))
          refine evp_var (s := .seq .own (nD (toldAt pl i))) rfl (fun h => nomatch h) ?_
          refine ⟨_, .seq _ _, by omega, fun j => decide (gP pl ((toldAt pl i).getD j 0) = .v 0), fun j => .int (((toldAt pl i).getD j 0 : Nat) : Int), fun j hj => ?_, ?_⟩
          · obtain ⟨e, h1, h2, h3⟩ := comp (.v n) j hj
            dsimp only
            rw [e]
            generalize (toldAt pl i).getD j 0 = k at h1 h2 h3
            refine gap_name (by decide) ?_
            repeat (wtm_at "d")
            refine evp_seq rfl (le_seq hs) ?_
            repeat (wtm_at "d")
            refine opp_ixn (seqS_lend (le_seq hs)) (gP_dd h2) ?_
            generalize gP pl k = r at h3
            cases r with
            | m b c y => cases h3
            | v r =>
              repeat (wtm_at "d")
              refine opp_ix (i := 1) (.tup _) rfl ?_
              repeat (wtm_at "d")
              refine opp_eq (n := 0) (by decide) (nn _) (nn _) rfl rfl fun q hq => ?_
              have hq : q = true ↔ Pl.v r = .v 0 := hq.trans ⟨fun z => by
                have : (r : Int) = 0 := DD.int.inj z
                rw [show r = 0 by omega], fun z => by rw [Pl.v.inj z]; rfl⟩
              refine ⟨q, rfl, Bool.eq_iff_iff.mpr (hq.trans (by simp)), fun _ => ?_⟩
              repeat (wtm_at "d")
              rfl
          rw [show (nD (toldAt pl i)).length = (toldAt pl i).length by simp [nD], range_filter (g := fun k => decide (gP pl k = .v 0)) (f := fun k : Nat => DD.int (k : Int))]
          refine opp_new (opf_cat (.lst _) (.lst _) (by have := same_len (pl := pl) (i := i) (p := .v 0); have e : (nD (sameAt pl (toldAt pl i) (.v 0))).length = (((toldAt pl i).filter fun k => decide (gP pl k = .v 0)).map fun k : Nat => DD.int (k : Int)).length := rfl; have l1 := l1; show ([DD.int (i : Int)] ++ nD (sameAt pl (toldAt pl i) (.v n))).length + (nD (sameAt pl (toldAt pl i) (.v 0))).length ≤ 100000; omega) ?_)
          repeat (wtm_at "d")
          refine sd_appE (nD (toldAt pl (i + 1))) rfl (by omega) ?_
          repeat (wtm_at "d")
          refine ⟨by rw [finT, nD_app]; rfl, ?_⟩
          refine sd_appE ((lRows pl (i + 1)).map rowN) rfl rl ?_
          repeat (wtm_at "d")
          refine ⟨?_, _, _, _, _, _, rfl⟩
          rw [← finR]
          congr 2
          show _ = DD.lst (nD (([i] ++ sameAt pl (toldAt pl i) (.v n)) ++ (if 0 < n then sameAt pl (toldAt pl i) (.v 0) else [])))
          rw [if_pos hn, nD_app, nD_app]; rfl
        · have hn : ¬ 0 < n := by have := of_decide_eq_false hn; omega
          refine evp_new (evf_lstD ?_)
          repeat (wtm_at "d")
          refine ⟨_, rfl, by decide, ?_⟩
          refine opp_new (opf_cat (.lst _) (.lst _) (by show ([DD.int (i : Int)] ++ nD (sameAt pl (toldAt pl i) (.v n))).length + 0 ≤ 100000; omega) ?_)
          repeat (wtm_at "d")
          refine sd_appE (nD (toldAt pl (i + 1))) rfl (by omega) ?_
          repeat (wtm_at "d")
          refine ⟨by rw [finT, nD_app]; rfl, ?_⟩
          refine sd_appE ((lRows pl (i + 1)).map rowN) rfl rl ?_
          repeat (wtm_at "d")
          refine ⟨?_, _, _, _, _, _, rfl⟩
          rw [← finR]
          congr 2
          show _ = DD.lst (nD (([i] ++ sameAt pl (toldAt pl i) (.v n)) ++ (if 0 < n then sameAt pl (toldAt pl i) (.v 0) else [])))
          rw [if_neg hn, nD_app, nD_app]; rfl
      | m b c y =>
        obtain ⟨hb, hc, hy⟩ := hrefs
        repeat (wtm_at "d")
        refine opp_ix (i := 0) (.tup _) rfl ?_
        repeat (wtm_at "d")
        refine opp_eq (n := 0) (by decide) (nn _) (nn _) (by decide +kernel) (by decide +kernel) fun q hq => ?_
        have hq : q = false := (bl_of_iff hq).2 mv_ne
        subst hq
        refine ⟨_, rfl, fun h => Bool.noConfusion h, fun _ => ?_⟩
        have getR : ∀ {j : Nat}, j < i → ((lRows pl i).map rowN)[j]? = some (rowN ((lRows pl i).getD j [])) := fun {j} hj => by
          rw [List.getElem?_map, List.getD_eq_getElem?_getD, List.getElem?_eq_getElem (by rw [lRows_len]; exact hj)]; rfl
        have okR : ∀ {j : Nat}, j < i → ((lRows pl i).getD j []).Nodup ∧ ∀ x ∈ (lRows pl i).getD j [], x < i := fun {j} hj => by
          rw [List.getD_eq_getElem?_getD, List.getElem?_eq_getElem (by rw [lRows_len]; exact hj)]
          exact lRows_ok _ (List.getElem_mem _)
        refine sd_for (vs := [5]) (wfp_seq (evp_fromS ?_))
        repeat (wtm_at "d")
        refine evp_seq rfl (le_seq hs) ?_
        repeat (wtm_at "d")
        refine opp_ixn (seqS_lend (le_seq hs)) hg ?_
        refine ⟨_, .tup _, evo_part ?_⟩
        wtm_at "d"
        refine ⟨_, rfl, 1, rfl, fun t _ ht => ⟨_, ht, fun j ρ => ∃ u5 u6 u7 row, ρ = [s, .seq .own (nD (toldAt pl i)), .seq .own ((lRows pl i).map rowN), .dat (.int (i : Int)), .dat (rowN row), u5, u6, u7] ∧ row = (([b, c, y].take j).map fun k => (lRows pl i).getD k []).foldl addNew [i] ∧ row.Nodup ∧ ∀ x ∈ row, x < i + 1,
          ⟨_, _, _, [i], rfl, rfl, by simp, fun x hx => by have : x = i := by simpa using hx
                                                           omega⟩, fun j ρ hj hI => ?_, fun ρ hI => ?_⟩⟩
        · obtain ⟨u5, u6, u7, row, rfl, hrow', hnd, hlt⟩ := hI
          have hj : j < 3 := hj
          obtain ⟨jj, e1, e2, e3⟩ : ∃ jj : Nat, [b, c, y][j]? = some jj ∧ jj < i ∧ itemsOf [.int (b : Int), .int (c : Int), .int (y : Int)] j = .int (jj : Int) := by
            match j, hj with
            | 0, _ => exact ⟨b, rfl, hb, rfl⟩
            | 1, _ => exact ⟨c, rfl, hc, rfl⟩
            | 2, _ => exact ⟨y, rfl, hy, rfl⟩
            | n + 3, h => exact absurd h (by omega)
          show GaP W _ _ (.dat (itemsOf [.int (b : Int), .int (c : Int), .int (y : Int)] j)) _ _
          rw [e3]
          have okr := okR e2
          have hgr := getR e2
          have hfold : addNew row ((lRows pl i).getD jj []) = (([b, c, y].take (j + 1)).map fun k => (lRows pl i).getD k []).foldl addNew [i] := by
            rw [List.take_add_one, e1, List.map_append, List.foldl_append, ← hrow']; rfl
          generalize (lRows pl i).getD jj [] = rj at okr hgr hfold
          have lj := nodup_len okr.1 okr.2
          have lr := nodup_len hnd hlt
          refine gap_name (by decide) ?_
          repeat (wtm_at "e")
          refine evp_new (evf_lcm (wip_seq ?_))
          repeat (wtm_at "d")
          refine evp_var (s := .seq .own ((lRows pl i).map rowN)) rfl (fun h => nomatch h) ?_
          repeat (wtm_at "d")
          refine opp_ixn (.seq _ _) hgr ?_
          refine ⟨_, .lst _, by rw [nD_len]; omega, fun j => !decide (rj.getD j 0 ∈ row), fun j => .int ((rj.getD j 0 : Nat) : Int), fun j hj => ?_, ?_⟩
          · have hj : j < rj.length := by simpa [nD] using hj
            rw [show itemsOf (nD rj) j = .int ((rj.getD j 0 : Nat) : Int) from items_mapg (get_getD hj)]
            refine gap_name (by decide) ?_
            repeat (wtm_at "d")
            refine opp_nin (ns := row.map fun k : Nat => (k : Int)) (by rw [← nD_ints]; exact .lst _) ?_
            refine ⟨_, rfl, ?_, fun _ => ?_⟩
            · congr 1
              exact decide_eq_decide.mpr mem_ints
            · repeat (wtm_at "d")
              rfl
          rw [nD_len, range_filter (g := fun k => !decide (k ∈ row)) (f := fun k : Nat => DD.int (k : Int))]
          refine opp_new (opf_cat (.lst _) (.lst _) (by rw [nD_len, List.length_map]; have := List.length_filter_le (fun k => !decide (k ∈ row)) rj; omega) ?_)
          repeat (wtm_at "d")
          refine ⟨.dat (.int (jj : Int)), u6, u7, addNew row rj, ?_, hfold, addNew_nodup hnd okr.1, fun x hx => ?_⟩
          · have e : rowN (addNew row rj) = .lst (nD row ++ (rj.filter fun k => !decide (k ∈ row)).map fun k : Nat => DD.int (k : Int)) := congrArg DD.lst nD_app
            rw [e]; rfl
          · rcases mem_addNew.mp hx with z | z
            · exact hlt x z
            · have := okr.2 x z; omega
        · obtain ⟨u5, u6, u7, row, rfl, hrow', hnd, hlt⟩ := hI
          have hrow' : row = rowAt pl (lRows pl i) i (.m b c y) := hrow'
          show SD W _ _ _
          refine sd_appE ((lRows pl (i + 1)).map rowN) rfl rl ?_
          repeat (wtm_at "d")
          rw [hrow']
          have finT : toldAt pl (i + 1) = toldAt pl i := by
            rw [finT]
            exact List.append_nil _
          refine ⟨finR, ?_⟩
          show ∃ u3 u4 u5 u6 u7, _ = [s, .seq .own (nD (toldAt pl (i + 1))), .seq .own ((lRows pl (i + 1)).map rowN), u3, u4, u5, u6, u7]
          rw [finT]
          exact ⟨_, _, _, _, _, rfl⟩
    · obtain ⟨u3, u4, u5, u6, u7, rfl⟩ := hI
      rw [show (pl.length : Int).toNat = pl.length from Int.toNat_natCast _]
      show SD W _ _ _
      exact sd_retOwn (m := .own) rfl hR
end Dl

set_option Elab.async false
set_option linter.all false
set_option maxRecDepth 100000
set_option maxHeartbeats 1000000
namespace Dl
open PySem PySem.Spec PyProof.Rows L2
local macro_rules | `(tactic| wtm_at "d") => `(tactic| first
  | with_reducible refine sd_seq ?_ | with_reducible refine sd_if ?_ | with_reducible refine sd_ret ?_
  | with_reducible refine evp_op ?_ | with_reducible refine evp_un ?_ | with_reducible refine evp_cb ?_ | with_reducible refine evp_tupD ?_
  | with_reducible refine evp_andV ?_ | with_reducible refine evp_orV ?_ | with_reducible refine evp_notV ?_ | with_reducible refine evp_if ?_
  | with_reducible refine evt_test ?_ | with_reducible refine evt_B ?_ | with_reducible refine evt_and ?_ | with_reducible refine evt_or ?_ | with_reducible refine evt_not ?_
  | with_reducible refine eva_cons ?_ | with_reducible refine eva_nil ?_
  | with_reducible refine evp_int ?_ | with_reducible refine evp_str ?_ | with_reducible refine evp_bl ?_ | with_reducible refine evp_non ?_ | with_reducible refine evp_any ?_
  | (with_reducible refine evp_isv ?_; refine evp_dat rfl ?_)
  | with_reducible refine evp_callP ?_ | with_reducible refine evp_chain ?_
  | with_reducible refine sd_next ?_
  | with_reducible refine opp_add ?_ | with_reducible refine opp_sub ?_ | with_reducible refine opp_lt ?_ | with_reducible refine opp_le ?_ | with_reducible refine opp_gt ?_ | with_reducible refine opp_ge ?_
  | with_reducible refine opp_isN ?_ | with_reducible refine opp_notN ?_ | with_reducible refine unp_neg ?_
  | with_reducible refine ex_bl ?_ | with_reducible refine ex_dat ?_ | with_reducible refine ex_int ?_)
local macro_rules | `(tactic| wtm_at "e") => `(tactic| first | wtm_at "d" | with_reducible refine sd_set ?_)
variable {P : Program} {w : World} {K : PySem.W.Frag} {mg : Str → Option Value} {base : Heap} {A : Ads}
/-! _law_same, _law_kin, _law_fault -/
def sameB (pl : List Pl) (one : Nat) (row : List Nat) : Bool := row.any fun k => decide (k = one) || (isV (gP pl k) && decide (gP pl k = gP pl one))
theorem pl_nD (l : List Nat) : pl 1 (.lst (nD l)) = true := by
  show ((nD l).all fun d => pl 0 d) = true
  rw [List.all_eq_true]
  intro d hd
  obtain ⟨k, _, rfl⟩ := List.mem_map.mp hd
  rfl
abbrev c__law_same : List Slot → (DD → Prop) → Prop := fun ss R => ∃ s t pl one row, ss = [s, .dat (.int ((one : Nat) : Int)), t] ∧ LeS s (List.map Pl.dd pl) ∧ one < pl.length ∧ LeS t (nD row) ∧ row.length ≤ 1000 ∧ (∀ x ∈ row, x < pl.length) ∧ R (.bl (sameB pl one row))
theorem ok__law_same (T : Txt K mg A) : FD P w K mg base CX0 1 A._law_same ["_law_plan_here", "_law_one", "_law_row"] (spP c__law_same) := by
  obtain ⟨fd, F⟩ := T.F__law_same
  refine ⟨F.kp, fd, ?_, F.binds fun _ _ _ _ _ _ us hl => match us, hl with | [_, _, _], _ => rfl⟩
  refine fn_sd F sc__law_same no_mut no_mut2 ?len (by decide) fun cdv B outer s H E hr => ⟨_,
    (pss_one (ps_ret (pe_cmpR (r := rNeD K) (op_neD hr.units) (pe_lc (own := [("_law_step", 3)]) (g := (gName 3)) (by rfl) sc__law_same.nd (pi_seqK (K := K) rfl (pv 2)) (blkOk_by (own := [("_law_step", 3)]) (N := N__law_same) (sc := defScope s__law_same) (by decide +kernel)) (fun _ _ _ _ _ => (pg_name (i := 3) sc__law_same.nd rfl (Or.inl rfl))) (fun _ _ _ _ _ => (pts_one (PW.pt (pw_or (pt_cmpR (r := rEqD K) (op_eqD hr.units) (pv 3) (pv 1) (nomark _)) (pw_or1 (PW.pt (pw_and (pt_cmpR (r := rEqD K) (op_eqD hr.units) (pe_ix (r := rIx K) ix_seq (pe_ix (r := rIx K) ix_seq (pv 0) (pv 3) (fun _ _ => rfl)) pe_int (fun _ _ => rfl)) pe_str (nomark _)) (pw_and1 (pt_cmpR (r := rEqD K) (op_eqD hr.units) (pe_ix (r := rIx K) ix_seq (pv 0) (pv 3) (fun _ _ => rfl)) (pe_ix (r := rIx K) ix_seq (pv 0) (pv 1) (fun _ _ => rfl)) (nomark _)))))))))) (fun _ _ _ _ _ => (pv 3))) (pe_lst pa_nil) (nomark _)))), ?body⟩
  case len => intro ss R RE hc; (first | (obtain ⟨_, rfl, _⟩ := hc; rfl) | (obtain ⟨_, _, rfl, _⟩ := hc; rfl) | (obtain ⟨_, _, _, rfl, _⟩ := hc; rfl) | (obtain ⟨_, _, _, _, rfl, _⟩ := hc; rfl) | (obtain ⟨_, _, _, _, _, rfl, _⟩ := hc; rfl) | (obtain ⟨_, _, _, _, _, _, rfl, _⟩ := hc; rfl) | (obtain ⟨_, _, _, _, _, _, _, rfl, _⟩ := hc; rfl) | (obtain ⟨_, _, _, _, _, _, _, _, rfl, _⟩ := hc; rfl) | (obtain ⟨_, _, _, _, _, _, _, _, _, rfl, _⟩ := hc; rfl) | (obtain ⟨_, _, _, _, _, _, _, _, _, _, rfl, _⟩ := hc; rfl) | (obtain ⟨_, _, _, _, _, _, _, _, _, _, _, rfl, _⟩ := hc; rfl))
  case body =>
    rintro W ss R RE _ _ ⟨s, t, pl, one, row, rfl, hs, ho, ht, hl, hlt, hR⟩
    repeat (wtm_at "d")
    refine evp_new (evf_lcm (wip_seq ?_))
    refine evp_seq rfl (le_seq ht) ?_
    refine ⟨_, seqS_lend (le_seq ht), by rw [nD_len]; omega, fun j => (fun k => decide (k = one) || (isV (gP pl k) && decide (gP pl k = gP pl one))) (row.getD j 0), fun j => .int ((row.getD j 0 : Nat) : Int), fun j hj => ?_, ?_⟩
    · have hj : j < row.length := by simpa [nD] using hj
      have hk := hlt _ (List.mem_of_getElem? (get_getD hj))
      rw [show itemsOf (nD row) j = .int ((row.getD j 0 : Nat) : Int) from items_mapg (get_getD hj)]
      dsimp only
      generalize row.getD j 0 = k at hk
      have hg := gP_dd hk
      have hgo := gP_dd ho
      refine gap_name (by decide) ?_
      repeat (wtm_at "d")
      refine opp_eq (n := 0) (by decide) (nn _) (nn _) rfl rfl fun q1 hq1 => ?_
      have hq1 : q1 = true ↔ k = one := hq1.trans ⟨fun z => by have := DD.int.inj z; omega, fun z => by rw [z]⟩
      refine ⟨q1, rfl, fun h => ?_, fun h => ?_⟩
      · refine ⟨?_, fun _ => ?_⟩
        · rw [decide_eq_true (hq1.mp h)]; rfl
        · repeat (wtm_at "d")
          rfl
      have e1 : decide (k = one) = false := decide_eq_false fun z => by rw [hq1.mpr z] at h; cases h
      repeat (wtm_at "d")
      refine evp_seq rfl (le_seq hs) ?_
      repeat (wtm_at "d")
      refine opp_ixn (seqS_lend (le_seq hs)) hg ?_
      rw [e1]
      generalize gP pl k = p at hg
      cases p with
      | v n =>
        repeat (wtm_at "d")
        refine opp_ix (i := 0) (.tup _) rfl ?_
        repeat (wtm_at "d")
        refine opp_eq (n := 0) (by decide) (nn _) (nn _) (by decide +kernel) (by decide +kernel) fun q hq => ?_
        have hq : q = true := hq.mpr rfl
        subst hq
        refine ⟨_, rfl, fun _ => ?_, fun h => Bool.noConfusion h⟩
        repeat (wtm_at "d")
        refine evp_seq rfl (le_seq hs) ?_
        repeat (wtm_at "d")
        refine opp_ixn (seqS_lend (le_seq hs)) hg ?_
        repeat (wtm_at "d")
        refine evp_seq rfl (le_seq hs) ?_
        repeat (wtm_at "d")
        refine opp_ixn (seqS_lend (le_seq hs)) hgo ?_
        refine opp_eq (n := 1) (by decide) (nn _) (nn _) (pl_dd1 _) (pl_dd1 _) fun q hq => ?_
        have hq : q = true ↔ Pl.v n = gP pl one := hq.trans ⟨fun z => dd_inj z, fun z => by rw [z]⟩
        refine ⟨q, rfl, ?_, fun _ => ?_⟩
        · show q = decide (Pl.v n = gP pl one)
          exact Bool.eq_iff_iff.mpr (hq.trans (by simp))
        · repeat (wtm_at "d")
          rfl
      | m b c y =>
        repeat (wtm_at "d")
        refine opp_ix (i := 0) (.tup _) rfl ?_
        repeat (wtm_at "d")
        refine opp_eq (n := 0) (by decide) (nn _) (nn _) (by decide +kernel) (by decide +kernel) fun q hq => ?_
        have hq : q = false := (bl_of_iff hq).2 mv_ne
        subst hq
        refine ⟨_, rfl, fun h => Bool.noConfusion h, fun _ => ?_⟩
        exact ⟨rfl, fun h => by cases h⟩
    rw [nD_len, range_filter (g := fun k => decide (k = one) || (isV (gP pl k) && decide (gP pl k = gP pl one))) (f := fun k : Nat => DD.int (k : Int))]
    refine evp_new (evf_lstD ?_)
    repeat (wtm_at "d")
    refine ⟨_, rfl, by decide, ?_⟩
    refine opp_ne (n := 1) (by decide) (nn _) (nn _) (pl_nD _) rfl fun q hq => ?_
    refine ⟨_, rfl, ?_⟩
    have e : q = sameB pl one row := by
      refine Bool.eq_iff_iff.mpr (hq.trans ?_)
      unfold sameB
      rw [List.any_eq_true]
      refine ⟨fun z => ?_, fun ⟨k, hk, hp⟩ z => ?_⟩
      · cases e : row.filter (fun k => decide (k = one) || (isV (gP pl k) && decide (gP pl k = gP pl one))) with
        | nil => exact absurd (congrArg (fun l : List Nat => DD.lst (l.map fun k : Nat => DD.int (k : Int))) e) z
        | cons k r =>
          have m : k ∈ row.filter (fun k => decide (k = one) || (isV (gP pl k) && decide (gP pl k = gP pl one))) := by rw [e]; exact List.mem_cons_self
          exact ⟨k, (List.mem_filter.mp m).1, (List.mem_filter.mp m).2⟩
      · have m : k ∈ row.filter (fun k => decide (k = one) || (isV (gP pl k) && decide (gP pl k = gP pl one))) := List.mem_filter.mpr ⟨hk, hp⟩
        have z : ((row.filter (fun k => decide (k = one) || (isV (gP pl k) && decide (gP pl k = gP pl one)))).map fun k : Nat => DD.int (k : Int)) = [] := DD.lst.inj z
        rw [List.map_eq_nil_iff.mp z] at m
        cases m
    rw [e]
    exact hR
def kinB (pl : List Pl) (rows : List (List Nat)) (one other : Nat) : Bool := decide (gP pl one = .v 0) || sameB pl one (rows.getD other [])
abbrev c__law_kin : List Slot → (DD → Prop) → Prop := fun ss R => ∃ s pl rows one other, ss = [s, .dat (.lst (List.map rowN rows)), .dat (.int ((one : Nat) : Int)), .dat (.int ((other : Nat) : Int))] ∧ LeS s (List.map Pl.dd pl) ∧ one < pl.length ∧ other < rows.length ∧ (∀ r ∈ rows, r.length ≤ 1000 ∧ ∀ x ∈ r, x < pl.length) ∧ R (.bl (kinB pl rows one other))
theorem ok__law_kin (T : Txt K mg A) : FD P w K mg base CX0 2 A._law_kin ["_law_plan_here", "_law_rows", "_law_one", "_law_other"] (spP c__law_kin) := by
  obtain ⟨fd, F⟩ := T.F__law_kin
  obtain ⟨k__law_same, fd__law_same, G__law_same, B__law_same⟩ := ok__law_same (P := P) (w := w) (base := base) T
  refine ⟨F.kp, fd, ?_, F.binds fun _ _ _ _ _ _ us hl => match us, hl with | [_, _, _, _], _ => rfl⟩
  refine fn_sd F sc__law_kin no_mut no_mut2 ?len (by decide) fun cdv B outer s H E hr => ⟨_,
    (pss_cons (ps_if (pt_cmpR (r := rEqD K) (op_eqD hr.units) (pe_ix (r := rIx K) ix_seq (pv 0) (pv 2) (fun _ _ => rfl)) (pe_tup (pa_cons pe_str (pa_cons pe_int pa_nil))) (nomark _))
      (pss_one (ps_ret pe_bl))
      pss_nil)
      (pss_one (ps_ret (pe_call G__law_same (hr.mono (by decide)) (by rfl) T.g__law_same k__law_same B__law_same .nil pass0 (pa_cons (pv 0) (pa_cons (pv 2) (pa_cons (pe_ix (r := rIx K) ix_seq (pv 1) (pv 3) (fun _ _ => rfl)) pa_nil))))))), ?body⟩
  case len => intro ss R RE hc; (first | (obtain ⟨_, rfl, _⟩ := hc; rfl) | (obtain ⟨_, _, rfl, _⟩ := hc; rfl) | (obtain ⟨_, _, _, rfl, _⟩ := hc; rfl) | (obtain ⟨_, _, _, _, rfl, _⟩ := hc; rfl) | (obtain ⟨_, _, _, _, _, rfl, _⟩ := hc; rfl) | (obtain ⟨_, _, _, _, _, _, rfl, _⟩ := hc; rfl) | (obtain ⟨_, _, _, _, _, _, _, rfl, _⟩ := hc; rfl) | (obtain ⟨_, _, _, _, _, _, _, _, rfl, _⟩ := hc; rfl) | (obtain ⟨_, _, _, _, _, _, _, _, _, rfl, _⟩ := hc; rfl) | (obtain ⟨_, _, _, _, _, _, _, _, _, _, rfl, _⟩ := hc; rfl) | (obtain ⟨_, _, _, _, _, _, _, _, _, _, _, rfl, _⟩ := hc; rfl))
  case body =>
    rintro W ss R RE _ _ ⟨s, pl, rows, one, other, rfl, hs, ho, hr2, hrows, hR⟩
    have hgr : (rows.map rowN)[other]? = some (rowN (rows.getD other [])) := by
      rw [List.getElem?_map, List.getD_eq_getElem?_getD, List.getElem?_eq_getElem hr2]; rfl
    have hro := hrows (rows.getD other []) (by rw [List.getD_eq_getElem?_getD, List.getElem?_eq_getElem hr2]; exact List.getElem_mem _)
    repeat (wtm_at "d")
    refine evp_seq rfl (le_seq hs) ?_
    repeat (wtm_at "d")
    refine opp_ixn (seqS_lend (le_seq hs)) (gP_dd ho) ?_
    repeat (wtm_at "d")
    refine ⟨_, rfl, by show 2 ≤ 100000; decide, ?_⟩
    refine opp_eq (n := 1) (by decide) (nn _) (nn _) (pl_dd1 _) (pl_dd1 (.v 0)) fun q hq => ?_
    have hq : q = true ↔ gP pl one = .v 0 := hq.trans ⟨fun z => dd_inj z, fun z => by rw [z]; rfl⟩
    refine ⟨q, rfl, fun h => ?_, fun h => ?_⟩
    · repeat (wtm_at "d")
      have e : kinB pl rows one other = true := by
        unfold kinB
        rw [decide_eq_true (hq.mp h)]; rfl
      rw [e] at hR
      exact hR
    · have e : kinB pl rows one other = sameB pl one (rows.getD other []) := by
        unfold kinB
        rw [decide_eq_false (fun z => by rw [hq.mpr z] at h; cases h)]; rfl
      rw [e] at hR
      repeat (wtm_at "d")
      refine evp_seq rfl (le_seq hs) ?_
      repeat (wtm_at "d")
      refine opp_ixn (.lst _) hgr ?_
      repeat (wtm_at "d")
      obtain ⟨ks, hks, _⟩ := kd_seq (le_seq hs)
      refine ⟨by have := ok1 hks; simpa [okArgs] using this, _, _, pl, one, rows.getD other [], rfl, le_arg (le_lend hs), ho, .lst _, hro.1, hro.2, ?_⟩
      repeat (wtm_at "d")
      exact hR
def lfAt (pl : List Pl) (rows : List (List Nat)) : Nat → List Pl → Option Nat
  | _, [] => none
  | i, .v _ :: r => lfAt pl rows (i + 1) r
  | i, .m b c y :: r => if kinB pl rows b c && kinB pl rows b y then lfAt pl rows (i + 1) r else some i
abbrev c__law_fault : List Slot → (DD → Prop) → Prop := fun ss R => ∃ s pl, ss = [s] ∧ LeS s (List.map Pl.dd pl) ∧ PlRef pl ∧ pl.length ≤ 20 ∧ R (optD (lfAt pl (rowsOf pl) 0 pl))
theorem ok__law_fault (T : Txt K mg A) : FD P w K mg base CX0 3 A._law_fault ["_law_plan_here"] (spP c__law_fault) := by
  obtain ⟨fd, F⟩ := T.F__law_fault
  obtain ⟨k__law_elders, fd__law_elders, G__law_elders, B__law_elders⟩ := ok__law_elders (P := P) (w := w) (base := base) T
  obtain ⟨k__law_kin, fd__law_kin, G__law_kin, B__law_kin⟩ := ok__law_kin (P := P) (w := w) (base := base) T
  refine ⟨F.kp, fd, ?_, F.binds fun _ _ _ _ _ _ us hl => match us, hl with | [_], _ => rfl⟩
  refine fn_sd F sc__law_fault no_mut no_mut2 ?len (by decide) fun cdv B outer s H E hr => ⟨_,
    (pss_cons (ps_set (i := 1) sc__law_fault.nd rfl (Or.inl rfl) (pe_call G__law_elders (hr.mono (by decide)) (by rfl) T.g__law_elders k__law_elders B__law_elders .nil pass0 (pa_cons (pv 0) pa_nil)))
      (pss_cons (ps_for PassesOwn.never rfl (pi_range1 (by rfl) T.n_range (pa_cons (pe_callB (r := cLen K) call_cLen (by rfl) T.n_len (by decide +kernel) (pa_cons (pv 0) pa_nil)) pa_nil)) (pg_name (i := 2) sc__law_fault.nd rfl (Or.inl rfl))
      (pss_one (ps_if (pt_cmpR (r := rEqD K) (op_eqD hr.units) (pe_ix (r := rIx K) ix_seq (pe_ix (r := rIx K) ix_seq (pv 0) (pv 2) (fun _ _ => rfl)) pe_int (fun _ _ => rfl)) pe_str (nomark _))
      (pss_cons (ps_par3 (i := 3) (j := 4) (l := 5) (by rfl) sc__law_fault.nd rfl rfl rfl (by decide) (by decide) (by decide) rfl rfl rfl (pa_cons (pe_ix (r := rIx K) ix_seq (pe_ix (r := rIx K) ix_seq (pv 0) (pv 2) (fun _ _ => rfl)) pe_int (fun _ _ => rfl)) (pa_cons (pe_ix (r := rIx K) ix_seq (pe_ix (r := rIx K) ix_seq (pv 0) (pv 2) (fun _ _ => rfl)) pe_int (fun _ _ => rfl)) (pa_cons (pe_ix (r := rIx K) ix_seq (pe_ix (r := rIx K) ix_seq (pv 0) (pv 2) (fun _ _ => rfl)) pe_int (fun _ _ => rfl)) pa_nil))) (by rfl))
      (pss_one (ps_if (PW.pt (pw_or (pt_not (pt_val (pe_call G__law_kin (hr.mono (by decide)) (by rfl) T.g__law_kin k__law_kin B__law_kin .nil pass0 (pa_cons (pv 0) (pa_cons (pv 1) (pa_cons (pv 3) (pa_cons (pv 4) pa_nil))))))) (pw_or1 (pt_not (pt_val (pe_call G__law_kin (hr.mono (by decide)) (by rfl) T.g__law_kin k__law_kin B__law_kin .nil pass0 (pa_cons (pv 0) (pa_cons (pv 1) (pa_cons (pv 3) (pa_cons (pv 5) pa_nil))))))))))
      (pss_one (ps_ret (pv 2)))
      pss_nil)))
      pss_nil)))
      (pss_one (ps_ret pe_non)))), ?body⟩
  case len => intro ss R RE hc; (first | (obtain ⟨_, rfl, _⟩ := hc; rfl) | (obtain ⟨_, _, rfl, _⟩ := hc; rfl) | (obtain ⟨_, _, _, rfl, _⟩ := hc; rfl) | (obtain ⟨_, _, _, _, rfl, _⟩ := hc; rfl) | (obtain ⟨_, _, _, _, _, rfl, _⟩ := hc; rfl) | (obtain ⟨_, _, _, _, _, _, rfl, _⟩ := hc; rfl) | (obtain ⟨_, _, _, _, _, _, _, rfl, _⟩ := hc; rfl) | (obtain ⟨_, _, _, _, _, _, _, _, rfl, _⟩ := hc; rfl) | (obtain ⟨_, _, _, _, _, _, _, _, _, rfl, _⟩ := hc; rfl) | (obtain ⟨_, _, _, _, _, _, _, _, _, _, rfl, _⟩ := hc; rfl) | (obtain ⟨_, _, _, _, _, _, _, _, _, _, _, rfl, _⟩ := hc; rfl))
  case body =>
    rintro W ss R RE _ _ ⟨s, pl, rfl, hs, hok, hpl, hR⟩
    obtain ⟨ks, hks, _⟩ := kd_seq (le_seq hs)
    have hml : (List.map Pl.dd pl).length = pl.length := by simp
    have hrows : ∀ r ∈ rowsOf pl, r.length ≤ 1000 ∧ ∀ x ∈ r, x < pl.length := fun r hr => by
      obtain ⟨h1, h2⟩ := lRows_ok r hr
      have := nodup_len h1 h2
      exact ⟨by omega, h2⟩
    have hrl : (rowsOf pl).length = pl.length := lRows_len
    repeat (wtm_at "e")
    refine evp_seq rfl (le_seq hs) ?_
    repeat (wtm_at "d")
    refine ⟨ok1 hks, _, pl, rfl, le_arg (le_lend hs), hok, hpl, ?_⟩
    repeat (wtm_at "d")
    refine sd_for (vs := [2]) (wfp_rng1 ?_)
    repeat (wtm_at "d")
    refine evp_seq rfl (le_seq hs) ?_
    repeat (wtm_at "d")
    refine cap_len (seqS_lend (le_seq hs)) ?_
    rw [hml]
    repeat (wtm_at "d")
    refine ⟨_, rfl, by omega, by omega, fun i ρ => ∃ u2 u3 u4 u5, ρ = [s, .dat (.lst ((rowsOf pl).map rowN)), u2, u3, u4, u5] ∧ lfAt pl (rowsOf pl) 0 pl = lfAt pl (rowsOf pl) i (pl.drop i), ⟨_, _, _, _, rfl, rfl⟩, fun i ρ hi hI => ?_, fun ρ hI => ?_⟩
    · obtain ⟨u2, u3, u4, u5, rfl, hfl⟩ := hI
      have hi : i < pl.length := by simpa using hi
      have hg := gP_dd hi
      have hrefs := hok i _ (gP_get hi)
      have hdr : pl.drop i = gP pl i :: pl.drop (i + 1) := by
        rw [List.drop_eq_getElem_cons hi]
        have := gP_get hi
        rw [List.getElem?_eq_getElem hi] at this
        rw [Option.some.inj this]
      rw [hdr] at hfl
      generalize gP pl i = p at hg hrefs hfl
      refine gap_name (by decide) ?_
      repeat (wtm_at "d")
      refine evp_seq rfl (le_seq hs) ?_
      repeat (wtm_at "d")
      refine opp_ixn (seqS_lend (le_seq hs)) hg ?_
      cases p with
      | v n =>
        repeat (wtm_at "d")
        refine opp_ix (i := 0) (.tup _) rfl ?_
        repeat (wtm_at "d")
        refine opp_eq (n := 0) (by decide) (nn _) (nn _) (by decide +kernel) (by decide +kernel) fun q hq => ?_
        have hq : q = false := (bl_of_iff hq).2 vm_ne
        subst hq
        refine ⟨_, rfl, fun h => Bool.noConfusion h, fun _ => ?_⟩
        repeat (wtm_at "d")
        exact ⟨_, _, _, _, rfl, hfl⟩
      | m b c y =>
        obtain ⟨hb, hc, hy⟩ := hrefs
        repeat (wtm_at "d")
        refine opp_ix (i := 0) (.tup _) rfl ?_
        repeat (wtm_at "d")
        refine opp_eq (n := 0) (by decide) (nn _) (nn _) (by decide +kernel) (by decide +kernel) fun q hq => ?_
        have hq : q = true := hq.mpr rfl
        subst hq
        refine ⟨_, rfl, fun _ => ?_, fun h => Bool.noConfusion h⟩
        refine sd_seq (sd_par3 ?_)
        have sub : ∀ {W : Wd} {ρ : List Slot} {k : Nat} {d : DD} {Q : Slot → Prop}, ρ[0]? = some s → ρ[2]? = some (.dat (.int (i : Int))) → (Pl.m b c y).stp.ds[k]? = some d → Q (.dat d) → EvP W (tOp (rIx K) (tOp (rIx K) (tVar 0) (tVar 2)) (tC (.int (k : Int)))) ρ Q := fun h0 h2 hk q => by
          refine evp_op (evp_op (evp_seq h0 (le_seq hs) ?_))
          refine evp_dat h2 ?_
          refine opp_ixn (seqS_lend (le_seq hs)) hg ?_
          refine evp_int ?_
          exact opp_ixn (.tup _) hk q
        refine eva_cons (sub (k := 1) rfl rfl rfl ?_)
        refine eva_cons (sub (k := 2) rfl rfl rfl ?_)
        refine eva_cons (sub (k := 3) rfl rfl rfl ?_)
        refine eva_nil ?_
        refine ⟨_, _, _, rfl, ?_⟩
        repeat (wtm_at "d")
        refine evp_seq rfl (le_seq hs) ?_
        repeat (wtm_at "d")
        refine ⟨by have := ok1 hks; simpa [okArgs] using this, _, pl, rowsOf pl, b, _, rfl, le_arg (le_lend hs), by omega, by omega, hrows, ?_⟩
        repeat (wtm_at "d")
        refine ⟨fun h1 => ?_, fun h1 => ?_⟩
        · refine ⟨fun _ => ?_, fun h => Bool.noConfusion h⟩
          repeat (wtm_at "d")
          have e : lfAt pl (rowsOf pl) 0 pl = some i := by
            rw [hfl]
            show (if kinB pl (rowsOf pl) b c && kinB pl (rowsOf pl) b y then _ else some i) = some i
            rw [show kinB pl (rowsOf pl) b c = false by cases e : kinB pl (rowsOf pl) b c <;> simp_all]; rfl
          rw [e] at hR
          exact hR
        have k1 : kinB pl (rowsOf pl) b c = true := by cases e : kinB pl (rowsOf pl) b c <;> simp_all
        repeat (wtm_at "d")
        refine evp_seq rfl (le_seq hs) ?_
        repeat (wtm_at "d")
        refine ⟨by have := ok1 hks; simpa [okArgs] using this, _, pl, rowsOf pl, b, _, rfl, le_arg (le_lend hs), by omega, by omega, hrows, ?_⟩
        repeat (wtm_at "d")
        refine ⟨fun h2 => ?_, fun h2 => ?_⟩
        · repeat (wtm_at "d")
          have e : lfAt pl (rowsOf pl) 0 pl = some i := by
            rw [hfl]
            show (if kinB pl (rowsOf pl) b c && kinB pl (rowsOf pl) b y then _ else some i) = some i
            rw [k1, show kinB pl (rowsOf pl) b y = false by cases e : kinB pl (rowsOf pl) b y <;> simp_all]; rfl
          rw [e] at hR
          exact hR
        · have k2 : kinB pl (rowsOf pl) b y = true := by cases e : kinB pl (rowsOf pl) b y <;> simp_all
          repeat (wtm_at "d")
          refine ⟨_, _, _, _, rfl, ?_⟩
          rw [hfl]
          show (if kinB pl (rowsOf pl) b c && kinB pl (rowsOf pl) b y then _ else some i) = _
          rw [k1, k2]; rfl
    · obtain ⟨u2, u3, u4, u5, rfl, hfl⟩ := hI
      rw [show (pl.length : Int).toNat = pl.length from Int.toNat_natCast _, List.drop_length] at hfl
      rw [show lfAt pl (rowsOf pl) 0 pl = none from hfl] at hR
      show SD W _ _ _
      repeat (wtm_at "d")
      exact hR
end Dl

set_option Elab.async false
set_option linter.all false
set_option maxRecDepth 100000
set_option maxHeartbeats 1000000
namespace Dl
open PySem PySem.Spec PyProof.Rows L2
local macro_rules | `(tactic| wtm_at "d") => `(tactic| first
  | with_reducible refine sd_seq ?_ | with_reducible refine sd_if ?_ | with_reducible refine sd_ret ?_
  | with_reducible refine evp_op ?_ | with_reducible refine evp_un ?_ | with_reducible refine evp_cb ?_ | with_reducible refine evp_tupD ?_
  | with_reducible refine evp_andV ?_ | with_reducible refine evp_orV ?_ | with_reducible refine evp_notV ?_ | with_reducible refine evp_if ?_
  | with_reducible refine evt_test ?_ | with_reducible refine evt_B ?_ | with_reducible refine evt_and ?_ | with_reducible refine evt_or ?_ | with_reducible refine evt_not ?_
  | with_reducible refine eva_cons ?_ | with_reducible refine eva_nil ?_
  | with_reducible refine evp_int ?_ | with_reducible refine evp_str ?_ | with_reducible refine evp_bl ?_ | with_reducible refine evp_non ?_ | with_reducible refine evp_any ?_
  | (with_reducible refine evp_isv ?_; refine evp_dat rfl ?_)
  | with_reducible refine evp_callP ?_ | with_reducible refine evp_chain ?_
  | with_reducible refine sd_next ?_
  | with_reducible refine opp_add ?_ | with_reducible refine opp_sub ?_ | with_reducible refine opp_lt ?_ | with_reducible refine opp_le ?_ | with_reducible refine opp_gt ?_ | with_reducible refine opp_ge ?_
  | with_reducible refine opp_isN ?_ | with_reducible refine opp_notN ?_ | with_reducible refine unp_neg ?_
  | with_reducible refine ex_bl ?_ | with_reducible refine ex_dat ?_ | with_reducible refine ex_int ?_)
local macro_rules | `(tactic| wtm_at "e") => `(tactic| first | wtm_at "d" | with_reducible refine sd_set ?_)
variable {P : Program} {w : World} {K : PySem.W.Frag} {mg : Str → Option Value} {base : Heap} {A : Ads}
/-! _law_counts, _law_kept -/
def rowL (r : List Int) : DD := .lst (r.map .int)
abbrev c__law_counts : List Slot → (DD → Prop) → Prop := fun ss R => ∃ M s pl rs, ss = [.dat (.int ((M : Nat) : Int)), s] ∧ LeS s (List.map Pl.dd pl) ∧ M ≤ 1000 ∧ pl.length ≤ 1000 ∧ RowsOk M pl rs ∧ R (.lst (rs.map rowL))
theorem ok__law_counts (T : Txt K mg A) : FD P w K mg base CX0 1 A._law_counts ["_law_many", "_law_plan_here"] (spP c__law_counts) := by
  obtain ⟨fd, F⟩ := T.F__law_counts
  refine ⟨F.kp, fd, ?_, F.binds fun _ _ _ _ _ _ us hl => match us, hl with | [_, _], _ => rfl⟩
  refine fn_sd F sc__law_counts no_mut no_mut2 ?len (by decide) fun cdv B outer s H E hr => ⟨_,
    (pss_cons (ps_set (i := 2) sc__law_counts.nd rfl (Or.inl rfl) (pe_lst pa_nil))
      (pss_cons (ps_for PassesOwn.never rfl (pi_seqK (K := K) rfl (pv 1)) (pg_name (i := 3) sc__law_counts.nd rfl (Or.inr rfl))
      (pss_one (ps_if (pt_cmpR (r := rEqD K) (op_eqD hr.units) (pe_ix (r := rIx K) ix_seq (pv 3) pe_int (fun _ _ => rfl)) pe_str (nomark _))
      (pss_one (ps_expr (pe_bm PySem.F.plainAttrs_list PySem.F.slot_list_append PySem.F.type_list_append mt_append (pv 2) (pa_cons (pe_lc (own := [("_law_one", 7)]) (g := (gName 7)) (by rfl) sc__law_counts.nd (pi_range1 (by rfl) T.n_range (pa_cons (pv 0) pa_nil)) (blkOk_by (own := [("_law_one", 7)]) (N := N__law_counts) (sc := defScope s__law_counts) (by decide +kernel)) (fun _ _ _ _ _ => (pg_name (i := 7) sc__law_counts.nd rfl (Or.inl rfl))) (fun _ _ _ _ _ => pts_nil) (fun _ _ _ _ _ => (pe_ifExp (pt_cmpR (r := rEqD K) (op_eqD hr.units) (pv 7) (pe_ix (r := rIx K) ix_seq (pv 3) pe_int (fun _ _ => rfl)) (nomark _)) pe_int pe_int))) pa_nil))))
      (pss_cons (ps_asg (pe_tup (pa_cons (pe_ix (r := rIx K) ix_seq (pv 2) (pe_ix (r := rIx K) ix_seq (pv 3) pe_int (fun _ _ => rfl)) (fun _ _ => rfl)) (pa_cons (pe_ix (r := rIx K) ix_seq (pv 2) (pe_ix (r := rIx K) ix_seq (pv 3) pe_int (fun _ _ => rfl)) (fun _ _ => rfl)) (pa_cons (pe_ix (r := rIx K) ix_seq (pv 2) (pe_ix (r := rIx K) ix_seq (pv 3) pe_int (fun _ _ => rfl)) (fun _ _ => rfl)) pa_nil)))) (pg_tup rfl (pgs_cons (pg_name (i := 4) sc__law_counts.nd rfl (Or.inr rfl)) (pgs_cons (pg_name (i := 5) sc__law_counts.nd rfl (Or.inr rfl)) (pgs_cons (pg_name (i := 6) sc__law_counts.nd rfl (Or.inr rfl)) pgs_nil)))))
      (pss_one (ps_expr (pe_bm PySem.F.plainAttrs_list PySem.F.slot_list_append PySem.F.type_list_append mt_append (pv 2) (pa_cons (pe_lc (own := [("_law_one", 7)]) (g := (gName 7)) (by rfl) sc__law_counts.nd (pi_range1 (by rfl) T.n_range (pa_cons (pv 0) pa_nil)) (blkOk_by (own := [("_law_one", 7)]) (N := N__law_counts) (sc := defScope s__law_counts) (by decide +kernel)) (fun _ _ _ _ _ => (pg_name (i := 7) sc__law_counts.nd rfl (Or.inl rfl))) (fun _ _ _ _ _ => pts_nil) (fun _ _ _ _ _ => (pe_op op_subI (pe_op op_addU (pe_ix (r := rIx K) ix_seq (pv 5) (pv 7) (fun _ _ => rfl)) (pe_ix (r := rIx K) ix_seq (pv 6) (pv 7) (fun _ _ => rfl))) (pe_ix (r := rIx K) ix_seq (pv 4) (pv 7) (fun _ _ => rfl))))) pa_nil))))))))
      (pss_one (ps_ret (pv 2))))), ?body⟩
  case len => intro ss R RE hc; (first | (obtain ⟨_, rfl, _⟩ := hc; rfl) | (obtain ⟨_, _, rfl, _⟩ := hc; rfl) | (obtain ⟨_, _, _, rfl, _⟩ := hc; rfl) | (obtain ⟨_, _, _, _, rfl, _⟩ := hc; rfl) | (obtain ⟨_, _, _, _, _, rfl, _⟩ := hc; rfl) | (obtain ⟨_, _, _, _, _, _, rfl, _⟩ := hc; rfl) | (obtain ⟨_, _, _, _, _, _, _, rfl, _⟩ := hc; rfl) | (obtain ⟨_, _, _, _, _, _, _, _, rfl, _⟩ := hc; rfl) | (obtain ⟨_, _, _, _, _, _, _, _, _, rfl, _⟩ := hc; rfl) | (obtain ⟨_, _, _, _, _, _, _, _, _, _, rfl, _⟩ := hc; rfl) | (obtain ⟨_, _, _, _, _, _, _, _, _, _, _, rfl, _⟩ := hc; rfl))
  case body =>
    rintro W ss R RE _ _ ⟨M, s, pl, rs, rfl, hs, hM, hpl, hok, hR⟩
    have hlen := hok.1
    repeat (wtm_at "d")
    refine sd_own (evf_lstD ?_)
    repeat (wtm_at "d")
    refine ⟨_, rfl, by decide, ?_⟩
    repeat (wtm_at "d")
    refine sd_for (vs := [3]) (wfp_seq ?_)
    refine evp_seq rfl (le_seq hs) ?_
    refine ⟨_, le_lend hs, fun i ρ => ∃ u3 u4 u5 u6 u7, ρ = [.dat (.int ((M : Nat) : Int)), s, .seq .own ((rs.take i).map rowL), u3, u4, u5, u6, u7], ⟨_, _, _, _, _, rfl⟩, fun i ρ hi hI => ?_, fun ρ hI => ?_⟩
    · obtain ⟨u3, u4, u5, u6, u7, rfl⟩ := hI
      have hi : i < pl.length := by simpa using hi
      have hpi : pl[i]? = some pl[i] := List.getElem?_eq_getElem hi
      have hit : itemsOf (List.map Pl.dd pl) i = pl[i].dd := items_mapg hpi
      obtain ⟨r, hr, hrl, hcase⟩ := hok.2 i _ hpi
      have fin : (rs.take i).map rowL ++ [rowL r] = (rs.take (i + 1)).map rowL := by
        rw [List.take_add_one, hr, List.map_append]; rfl
      have hll : ((rs.take i).map rowL).length < 100000 := by rw [List.length_map, List.length_take]; omega
      rw [hit]
      refine gap_name (by decide) ?_
      generalize pl[i] = p at hcase
      cases p with
      | v n =>
        have hcase : r = rowV M n := hcase
        repeat (wtm_at "d")
        refine opp_ix (i := 0) (.tup _) rfl ?_
        repeat (wtm_at "d")
        refine opp_eq (n := 0) (by decide) (nn _) (nn _) (by decide +kernel) (by decide +kernel) fun q hq => ?_
        have hq : q = true := hq.mpr rfl
        subst hq
        refine ⟨_, rfl, fun _ => ?_, fun h => Bool.noConfusion h⟩
        refine sd_appE (ds := (rs.take i).map rowL) ((rs.take (i + 1)).map rowL) rfl hll ?_
        repeat (wtm_at "d")
        refine evp_new (evf_map (WfP.wip (wfp_rng1 ?_)))
        repeat (wtm_at "d")
        refine ⟨_, rfl, by omega, by omega, by omega, fun j => .int (if j = n then 1 else 0), fun j hj => gap_name (by decide) ?_, ?_⟩
        · repeat (wtm_at "d")
          refine opp_ix (i := 1) (.tup _) rfl ?_
          refine opp_eq (n := 0) (by decide) (nn _) (nn _) rfl rfl fun q hq => ?_
          repeat (wtm_at "d")
          have hq : q = true ↔ j = n := hq.trans ⟨fun z => by have := DD.int.inj z; omega, fun z => by rw [z]⟩
          refine ⟨fun h => ?_, fun h => ?_⟩
          · repeat (wtm_at "d")
            exact congrArg (fun x => Slot.dat (DD.int x)) (if_pos (hq.mp h)).symm
          · repeat (wtm_at "d")
            exact congrArg (fun x => Slot.dat (DD.int x)) (if_neg (fun z => by rw [hq.mpr z] at h; cases h)).symm
        · repeat (wtm_at "d")
          have e : DD.lst ((List.range (M : Int).toNat).map fun j => DD.int (if j = n then 1 else 0)) = rowL r := by
            rw [hcase]
            unfold rowL rowV
            rw [List.map_map, Int.toNat_natCast]; rfl
          rw [e]
          exact ⟨fin, _, _, _, _, _, rfl⟩
      | m b c y =>
        obtain ⟨hb, hc, hy, rb, rc, ry, eb, ec, ey, er⟩ := hcase
        have tk : ∀ {k : Nat} {x : List Int}, k < i → rs[k]? = some x → ((rs.take i).map rowL)[k]? = some (rowL x) := fun hk h => by rw [List.getElem?_map, List.getElem?_take_of_lt hk, h]; rfl
        repeat (wtm_at "d")
        refine opp_ix (i := 0) (.tup _) rfl ?_
        repeat (wtm_at "d")
        refine opp_eq (n := 0) (by decide) (nn _) (nn _) (by decide +kernel) (by decide +kernel) fun q hq => ?_
        have hq : q = false := (bl_of_iff hq).2 mv_ne
        subst hq
        refine ⟨_, rfl, fun h => Bool.noConfusion h, fun _ => ?_⟩
        have gI : ∀ {x : List Int} {j : Nat}, x.length = M → j < M → (x.map DD.int)[j]? = some (.int (x.getD j 0)) := fun {x j} hx hj => by
          rw [List.getElem?_map, List.getD_eq_getElem?_getD, List.getElem?_eq_getElem (by omega)]; rfl
        refine sd_seq (sd_asgT (vs := [4, 5, 6]) ?_)
        repeat (wtm_at "d")
        refine evp_var (s := .seq .own ((rs.take i).map rowL)) rfl (fun h => nomatch h) ?_
        repeat (wtm_at "d")
        refine opp_ix (i := 1) (.tup _) rfl ?_
        refine opp_ixn (.seq _ _) (tk hb eb) ?_
        repeat (wtm_at "d")
        refine evp_var (s := .seq .own ((rs.take i).map rowL)) rfl (fun h => nomatch h) ?_
        repeat (wtm_at "d")
        refine opp_ix (i := 2) (.tup _) rfl ?_
        refine opp_ixn (.seq _ _) (tk hc ec) ?_
        repeat (wtm_at "d")
        refine evp_var (s := .seq .own ((rs.take i).map rowL)) rfl (fun h => nomatch h) ?_
        repeat (wtm_at "d")
        refine opp_ix (i := 3) (.tup _) rfl ?_
        refine opp_ixn (.seq _ _) (tk hy ey) ?_
        repeat (wtm_at "d")
        refine ⟨_, rfl, by show 3 ≤ 100000; decide, gap_tup rfl (gas_cons (gap_name (by decide) (gas_cons (gap_name (by decide) (gas_cons (gap_name (by decide) (gas_nil ?_)))))))⟩
        refine sd_appE (ds := (rs.take i).map rowL) ((rs.take (i + 1)).map rowL) rfl hll ?_
        repeat (wtm_at "d")
        refine evp_new (evf_map (WfP.wip (wfp_rng1 ?_)))
        repeat (wtm_at "d")
        refine ⟨_, rfl, by omega, by omega, by omega, fun j => .int (rc.getD j 0 + ry.getD j 0 - rb.getD j 0), fun j hj => gap_name (by decide) ?_, ?_⟩
        · have hj : j < M := by simpa using hj
          repeat (wtm_at "d")
          refine opp_ixn (.lst _) (gI (hok.len ec) hj) ?_
          repeat (wtm_at "d")
          refine opp_ixn (.lst _) (gI (hok.len ey) hj) ?_
          repeat (wtm_at "d")
          refine opp_ixn (.lst _) (gI (hok.len eb) hj) ?_
          repeat (wtm_at "d")
          rfl
        · repeat (wtm_at "d")
          have e : DD.lst ((List.range (M : Int).toNat).map fun j => DD.int (rc.getD j 0 + ry.getD j 0 - rb.getD j 0)) = rowL r := by
            rw [er]
            unfold rowL rowM
            rw [List.map_map, Int.toNat_natCast]; rfl
          rw [e]
          exact ⟨fin, _, _, _, _, _, rfl⟩
    · obtain ⟨u3, u4, u5, u6, u7, rfl⟩ := hI
      rw [List.length_map, ← hlen, List.take_length]
      show SD W _ _ _
      exact sd_retOwn (m := .own) rfl hR
def gZ (rs : List (List Int)) (i j : Nat) : Int := (rs.getD i []).getD j 0
def badK (rs : List (List Int)) (i e j : Nat) : Bool := decide (gZ rs i j < 0) || decide (gZ rs i j < gZ rs e j)
def keptB (M : Nat) (rs : List (List Int)) (rows : List (List Nat)) : Bool := (List.range rows.length).all fun i => (rows.getD i []).all fun e => (List.range (M - 1)).all fun j => !badK rs i e (1 + j)
theorem all_getD {f : Nat → Bool} {l : List Nat} : l.all f = (List.range l.length).all fun i => f (l.getD i 0) := by
  have := range_getD (f := f) l
  have e : l.all f = (l.map f).all id := by rw [List.all_map]; rfl
  rw [e, ← this, List.all_map]; rfl
abbrev c__law_kept : List Slot → (DD → Prop) → Prop := fun ss R => ∃ M s pl rs, ss = [.dat (.int ((M : Nat) : Int)), s] ∧ LeS s (List.map Pl.dd pl) ∧ M ≤ 1000 ∧ PlRef pl ∧ pl.length ≤ 20 ∧ RowsOk M pl rs ∧ keptB M rs (rowsOf pl) = true ∧ R (.bl true)
theorem ok__law_kept (T : Txt K mg A) : FD P w K mg base CX0 2 A._law_kept ["_law_many", "_law_plan_here"] (spP c__law_kept) := by
  obtain ⟨fd, F⟩ := T.F__law_kept
  obtain ⟨k__law_elders, fd__law_elders, G__law_elders, B__law_elders⟩ := ok__law_elders (P := P) (w := w) (base := base) T
  obtain ⟨k__law_counts, fd__law_counts, G__law_counts, B__law_counts⟩ := ok__law_counts (P := P) (w := w) (base := base) T
  refine ⟨F.kp, fd, ?_, F.binds fun _ _ _ _ _ _ us hl => match us, hl with | [_, _], _ => rfl⟩
  refine fn_sd F sc__law_kept no_mut no_mut2 ?len (by decide) fun cdv B outer s H E hr => ⟨_,
    (pss_cons (ps_par (i := 2) (j := 3) (by rfl) sc__law_kept.nd rfl rfl (by decide) rfl rfl (pa_cons (pe_call G__law_counts (hr.mono (by decide)) (by rfl) T.g__law_counts k__law_counts B__law_counts .nil pass0 (pa_cons (pv 0) (pa_cons (pv 1) pa_nil))) (pa_cons (pe_call G__law_elders (hr.mono (by decide)) (by rfl) T.g__law_elders k__law_elders B__law_elders .nil pass0 (pa_cons (pv 1) pa_nil)) pa_nil)) (by rfl))
      (pss_cons (ps_for PassesOwn.never rfl (pi_range1 (by rfl) T.n_range (pa_cons (pe_callB (r := cLen K) call_cLen (by rfl) T.n_len (by decide +kernel) (pa_cons (pv 1) pa_nil)) pa_nil)) (pg_name (i := 4) sc__law_kept.nd rfl (Or.inl rfl))
      (pss_one (ps_for PassesOwn.never rfl (pi_seqK (K := K) rfl (pe_ix (r := rIx K) ix_seq (pv 3) (pv 4) (fun _ _ => rfl))) (pg_name (i := 5) sc__law_kept.nd rfl (Or.inl rfl))
      (pss_one (ps_for PassesOwn.never rfl (pi_range2 (by rfl) T.n_range (pa_cons pe_int (pa_cons (pv 0) pa_nil))) (pg_name (i := 6) sc__law_kept.nd rfl (Or.inl rfl))
      (pss_one (ps_if (PW.pt (pw_or (pt_cmpR op_ltI (pe_ix (r := rIx K) ix_seq (pe_ix (r := rIx K) ix_seq (pv 2) (pv 4) (fun _ _ => rfl)) (pv 6) (fun _ _ => rfl)) pe_int (nomark _)) (pw_or1 (pt_cmpR op_ltI (pe_ix (r := rIx K) ix_seq (pe_ix (r := rIx K) ix_seq (pv 2) (pv 4) (fun _ _ => rfl)) (pv 6) (fun _ _ => rfl)) (pe_ix (r := rIx K) ix_seq (pe_ix (r := rIx K) ix_seq (pv 2) (pv 5) (fun _ _ => rfl)) (pv 6) (fun _ _ => rfl)) (nomark _)))))
      (pss_one (ps_ret pe_bl))
      pss_nil)))))))
      (pss_one (ps_ret pe_bl)))), ?body⟩
  case len => intro ss R RE hc; (first | (obtain ⟨_, rfl, _⟩ := hc; rfl) | (obtain ⟨_, _, rfl, _⟩ := hc; rfl) | (obtain ⟨_, _, _, rfl, _⟩ := hc; rfl) | (obtain ⟨_, _, _, _, rfl, _⟩ := hc; rfl) | (obtain ⟨_, _, _, _, _, rfl, _⟩ := hc; rfl) | (obtain ⟨_, _, _, _, _, _, rfl, _⟩ := hc; rfl) | (obtain ⟨_, _, _, _, _, _, _, rfl, _⟩ := hc; rfl) | (obtain ⟨_, _, _, _, _, _, _, _, rfl, _⟩ := hc; rfl) | (obtain ⟨_, _, _, _, _, _, _, _, _, rfl, _⟩ := hc; rfl) | (obtain ⟨_, _, _, _, _, _, _, _, _, _, rfl, _⟩ := hc; rfl) | (obtain ⟨_, _, _, _, _, _, _, _, _, _, _, rfl, _⟩ := hc; rfl))
  case body =>
    rintro W ss R RE _ _ ⟨M, s, pl, rs, rfl, hs, hM, hok, hpl, hrs, hk, hR⟩
    obtain ⟨ks, hks, _⟩ := kd_seq (le_seq hs)
    have hml : (List.map Pl.dd pl).length = pl.length := by simp
    have hrl : (rowsOf pl).length = pl.length := lRows_len
    have okA : okArgs [lend s] = true := ok1 hks
    refine sd_seq (sd_par ?_)
    repeat (wtm_at "d")
    refine evp_seq rfl (le_seq hs) ?_
    repeat (wtm_at "d")
    refine ⟨by simpa [okArgs] using okA, M, _, pl, rs, rfl, le_arg (le_lend hs), hM, by omega, hrs, ?_⟩
    repeat (wtm_at "d")
    refine evp_seq rfl (le_seq hs) ?_
    repeat (wtm_at "d")
    refine ⟨okA, _, pl, rfl, le_arg (le_lend hs), hok, hpl, ?_⟩
    repeat (wtm_at "d")
    refine ⟨_, _, rfl, ?_⟩
    repeat (wtm_at "d")
    refine sd_for (vs := [4]) (wfp_rng1 ?_)
    repeat (wtm_at "d")
    refine evp_seq rfl (le_seq hs) ?_
    repeat (wtm_at "d")
    refine cap_len (seqS_lend (le_seq hs)) ?_
    rw [hml]
    repeat (wtm_at "d")
    refine ⟨_, rfl, by omega, by omega, fun i ρ => ∃ u4 u5 u6, ρ = [.dat (.int ((M : Nat) : Int)), s, .dat (.lst (rs.map rowL)), .dat (.lst ((rowsOf pl).map rowN)), u4, u5, u6], ⟨_, _, _, rfl⟩, fun i ρ hi hI => ?_, fun ρ hI => ?_⟩
    · obtain ⟨u4, u5, u6, rfl⟩ := hI
      have hi : i < pl.length := by simpa using hi
      have hki := List.all_eq_true.mp hk i (List.mem_range.mpr (by omega))
      have hgr : ((rowsOf pl).map rowN)[i]? = some (rowN ((rowsOf pl).getD i [])) := by
        rw [List.getElem?_map, List.getD_eq_getElem?_getD, List.getElem?_eq_getElem (by omega)]; rfl
      have hlt : ∀ x ∈ (rowsOf pl).getD i [], x < pl.length := by
        rw [List.getD_eq_getElem?_getD, List.getElem?_eq_getElem (by omega)]
        exact (lRows_ok _ (List.getElem_mem _)).2
      generalize (rowsOf pl).getD i [] = row at hki hgr hlt
      have gC : ∀ {k : Nat}, k < pl.length → (rs.map rowL)[k]? = some (rowL (rs.getD k [])) := fun {k} hk => by
        rw [List.getElem?_map, List.getD_eq_getElem?_getD, List.getElem?_eq_getElem (by rw [hrs.1]; exact hk)]; rfl
      have gI : ∀ {k j : Nat}, k < pl.length → j < M → ((rs.getD k []).map DD.int)[j]? = some (.int (gZ rs k j)) := fun {k j} hk hj => by
        have hl : (rs.getD k []).length = M := by
          have := hrs.len (i := k) (List.getElem?_eq_getElem (by rw [hrs.1]; exact hk))
          rw [List.getD_eq_getElem?_getD, List.getElem?_eq_getElem (by rw [hrs.1]; exact hk)]; exact this
        unfold gZ
        rw [List.getElem?_map, List.getD_eq_getElem?_getD (l := rs.getD k []), List.getElem?_eq_getElem (by omega)]; rfl
      refine gap_name (by decide) ?_
      refine sd_for (vs := [5]) (wfp_seq ?_)
      repeat (wtm_at "d")
      refine opp_ixn (.lst _) hgr ?_
      refine ⟨_, .lst _, fun k ρ => ∃ u5 u6, ρ = [.dat (.int ((M : Nat) : Int)), s, .dat (.lst (rs.map rowL)), .dat (.lst ((rowsOf pl).map rowN)), .dat (.int (i : Int)), u5, u6], ⟨_, _, rfl⟩, fun k ρ hk hI => ?_, fun ρ hI => ?_⟩
      · obtain ⟨u5, u6, rfl⟩ := hI
        have hk : k < row.length := by simpa [nD] using hk
        have hm := List.mem_of_getElem? (get_getD hk)
        have hkk := List.all_eq_true.mp hki _ hm
        have he := hlt _ hm
        rw [show itemsOf (nD row) k = .int ((row.getD k 0 : Nat) : Int) from items_mapg (get_getD hk)]
        generalize row.getD k 0 = e at hkk he
        refine gap_name (by decide) ?_
        refine sd_for (vs := [6]) (wfp_rng2 ?_)
        repeat (wtm_at "d")
        refine ⟨1, (M : Int), rfl, by omega, fun j ρ => ∃ u6, ρ = [.dat (.int ((M : Nat) : Int)), s, .dat (.lst (rs.map rowL)), .dat (.lst ((rowsOf pl).map rowN)), .dat (.int (i : Int)), .dat (.int (e : Int)), u6], ⟨_, rfl⟩, fun j ρ hj hI => ?_, fun ρ hI => ?_⟩
        · obtain ⟨u6, rfl⟩ := hI
          have hj : j < M - 1 := by omega
          have hb := List.all_eq_true.mp hkk j (List.mem_range.mpr hj)
          have hjM : 1 + j < M := by omega
          have ej : (1 : Int) + (j : Int) = ((1 + j : Nat) : Int) := by omega
          show GaP W _ _ (.dat (.int ((1 : Int) + (j : Int)))) _ _
          rw [ej]
          unfold badK at hb
          have h0 : decide (gZ rs i (1 + j) < 0) = false := by
            cases h : decide (gZ rs i (1 + j) < 0) <;> simp_all
          have h1 : decide (gZ rs i (1 + j) < gZ rs e (1 + j)) = false := by
            cases h : decide (gZ rs i (1 + j) < gZ rs e (1 + j)) <;> simp_all
          refine gap_name (by decide) ?_
          repeat (wtm_at "d")
          refine opp_ixn (.lst _) (gC hi) ?_
          repeat (wtm_at "d")
          refine opp_ixn (.lst _) (gI hi hjM) ?_
          repeat (wtm_at "d")
          rw [h0]
          refine ⟨fun h => Bool.noConfusion h, fun _ => ?_⟩
          repeat (wtm_at "d")
          refine opp_ixn (.lst _) (gC hi) ?_
          repeat (wtm_at "d")
          refine opp_ixn (.lst _) (gI hi hjM) ?_
          repeat (wtm_at "d")
          refine opp_ixn (.lst _) (gC he) ?_
          repeat (wtm_at "d")
          refine opp_ixn (.lst _) (gI he hjM) ?_
          repeat (wtm_at "d")
          rw [h1]
          refine ⟨fun h => Bool.noConfusion h, fun _ => ?_⟩
          repeat (wtm_at "d")
          exact ⟨_, rfl⟩
        · obtain ⟨u6, rfl⟩ := hI
          exact ⟨_, _, rfl⟩
      · obtain ⟨u5, u6, rfl⟩ := hI
        exact ⟨_, _, _, rfl⟩
    · obtain ⟨u4, u5, u6, rfl⟩ := hI
      show SD W _ _ _
      repeat (wtm_at "d")
      exact hR
end Dl

set_option Elab.async false
set_option linter.all false
set_option maxRecDepth 100000
set_option maxHeartbeats 1000000
/-! D14: the deal: a list [cells, blend] that is changed in place. -/
namespace Dl
open PySem PySem.Spec PyProof.Rows L2
def dM (i : Addr × Addr) : Addr → Prop := fun x => x = i.1 ∨ x = i.2
def CS (i : Addr × Addr) (cs : List Int) (bl : Int) (H : Hp) : Prop := i.1 ≠ i.2 ∧ H i.1 = some (.lst [.ref i.2, .int bl]) ∧ H i.2 = some (.lst (cs.map V.int)) ∧ cs.length ≤ 60
def dJ (i : Addr × Addr) : Hp → Prop := fun H => ∃ cs bl, CS i cs bl H
theorem d_jl (i : Addr × Addr) : ∀ H H', dJ i H → (∀ a, dM i a → H' a = H a) → dJ i H' := fun H H' ⟨cs, bl, h0, h1, h2, h3⟩ k =>
  ⟨cs, bl, h0, (k _ (.inl rfl)).trans h1, (k _ (.inr rfl)).trans h2, h3⟩
theorem d_jm (i : Addr × Addr) : ∀ H a, dJ i H → dM i a → H a ≠ none := fun H a ⟨cs, bl, h0, h1, h2, h3⟩ m z => by
  rcases m with rfl | rfl
  · rw [h1] at z; cases z
  · rw [h2] at z; cases z
/-- what a def promises that changes a deal -/
def spD (C : Addr × Addr → List Slot → (DD → Prop) → ErrP → Prop) : Sp := fun vs H Q E => ∃ i, spE (dM i) (dJ i) (C i) vs H Q E
theorem fn_spD {P : Program} {w : World} {K : PySem.W.Frag} {mg : Str → Option Value} {base : Heap} {CX : CXT} {k : Nat} {f : Addr} {fd : FuncData} {ps : List Str} {C : Addr × Addr → List Slot → (DD → Prop) → ErrP → Prop}
    (h : ∀ i, FnOk P w K mg base CX k f fd ps (spE (dM i) (dJ i) (C i))) : FnOk P w K mg base CX k f fd ps (spD C) :=
  ⟨fun vs H Q E ⟨i, q⟩ => (h i).len vs H Q E q, fun A outer s H args us vs Q E hr he hb hv ⟨i, q⟩ => (h i).run A outer s H args us vs Q E hr he hb hv q⟩
section
variable {W : Wd} {ρ : List Slot} {K : PySem.W.Frag} {P : Slot → Prop} {i : Addr × Addr}
theorem evp_callG {M : Addr → Prop} {J : Hp → Prop} {sp : Sp} (hM : W.M = M) (hJ : W.J = J) {C : List Slot → (DD → Prop) → ErrP → Prop} (hsp : ∀ vs H Q E, spE M J C vs H Q E → sp vs H Q E) {E : XK} {t : TA} (RE : ErrP) (hE : ErrOk W RE E)
    (h : EvA W t ρ fun ss => okArgs ss = true ∧ C (ss.map toArg) (fun d => P (.dat d)) RE) : EvP W (tCall sp [] E t) ρ P := fun σ G H S Q q =>
  h σ G H S _ fun xs G1 H1 ss f1 v1 ⟨ho, hc⟩ => by
    subst hM; subst hJ
    have c := S.cur.trans f1
    refine hsp _ _ _ _ ⟨G1, ss.map toArg, _, RE, f1.gh, f1.j, (fun a m => W.gm c m), ?_, hc, fun v G2 H2 d f2 rv p => ?_, fun cls f x dv p G2 H2 f2 hp rx re => ?_⟩
    · rw [List.append_nil]
      exact args_ok (fun _ z => z) v1 (okArgs_all ho)
    · exact q v G2 H2 (.dat d) (f1.trans f2) rv p
    · exact hE cls f x dv p G2 H2 (c.trans f2) hp rx re
theorem evp_callL {C : Addr × Addr → List Slot → (DD → Prop) → ErrP → Prop} {E : XK} {t : TA} (hM : W.M = dM i) (hJ : W.J = dJ i) (RE : ErrP) (hE : ErrOk W RE E)
    (h : EvA W t ρ fun ss => okArgs ss = true ∧ C i (ss.map toArg) (fun d => P (.dat d)) RE) : EvP W (tCall (spD C) [] E t) ρ P :=
  evp_callG hM hJ (fun _ _ _ _ q => ⟨i, q⟩) RE hE h
theorem evp_callL0 {C : Addr × Addr → List Slot → (DD → Prop) → ErrP → Prop} {E : XK} {t : TA} (hM : W.M = dM i) (hJ : W.J = dJ i)
    (h : EvA W t ρ fun ss => okArgs ss = true ∧ C i (ss.map toArg) (fun d => P (.dat d)) (fun _ _ _ => False)) : EvP W (tCall (spD C) [] E t) ρ P := evp_callL hM hJ _ err0 h
end
/-! ### its pieces -/
section
variable {W : Wd} {K : PySem.W.Frag} {i : Addr × Addr} {σ : L2.St} {G H : Hp} {Q : VK} {cs : List Int} {bl : Int}
theorem CS.off {p : Addr} {o : HO} (c : CS i cs bl H) (hp : H p = none) : CS i cs bl (upd H p o) := by
  obtain ⟨h0, h1, h2, h3⟩ := c
  exact ⟨h0, by rw [upd_ne (ne_of_none h1 hp)]; exact h1, by rw [upd_ne (ne_of_none h2 hp)]; exact h2, h3⟩
theorem CS.cells {cs' : List Int} (c : CS i cs bl H) (hl : cs'.length ≤ 60) : CS i cs' bl (upd H i.2 (.lst (cs'.map V.int))) := by
  obtain ⟨h0, h1, h2, h3⟩ := c
  exact ⟨h0, by rw [upd_ne h0]; exact h1, upd_same, hl⟩
theorem CS.blend {bl' : Int} (c : CS i cs bl H) : CS i cs bl' (upd H i.1 (.lst [.ref i.2, .int bl'])) := by
  obtain ⟨h0, h1, h2, h3⟩ := c
  exact ⟨h0, upd_same, by rw [upd_ne (Ne.symm h0)]; exact h2, h3⟩
theorem go_deal (hM : W.M = dM i) (hJ : W.J = dJ i) {H1 H2 : Hp} (c : W.Cur G H) (f : W.Go G H G H1) (off : ∀ x, ¬ dM i x → H2 x = H1 x) (j : dJ i H2) : W.Go G H G H2 where
  gg := Same.refl G
  gh := fun x u e => by
    have nm : ¬ dM i x := fun m => by
      rw [W.gm c (by rw [hM]; exact m)] at e; cases e
    rw [off x nm]; exact f.gh x u e
  keep := fun x o nm e => by
    rw [hM] at nm
    rw [off x nm]; exact f.keep x o (by rw [hM]; exact nm) e
  fr := fun x e => by
    by_cases m : dM i x
    · exact absurd e (d_jm i H2 x j m)
    · rw [off x m] at e; exact f.fr x e
  dom := fun _ _ g => g
  j := by rw [hJ]; exact j
theorem off_upd {H : Hp} {o : HO} {a : Addr} (h : dM i a) : ∀ x, ¬ dM i x → (upd H a o) x = H x := fun x n => upd_ne fun z => n (by rw [z]; exact h)
theorem r_c0 (h0 : σ[0]? = some (some (.ref i.1))) (c : CS i cs bl H) (q : Q (.ref i.2) H) : tOp (rIx K) (tVar 0) (tC (.int 0)) σ H Q :=
  ⟨_, h0, .inl ⟨i.1, _, 0, _, rfl, rfl, SqL.of c.2.1, rfl, q⟩⟩
theorem r_c1 (h0 : σ[0]? = some (some (.ref i.1))) (c : CS i cs bl H) (q : Q (.int bl) H) : tOp (rIx K) (tVar 0) (tC (.int 1)) σ H Q :=
  ⟨_, h0, .inl ⟨i.1, _, 1, _, rfl, rfl, SqL.of c.2.1, rfl, q⟩⟩
def g0 : Hp := fun _ => none
theorem dp_ints {l : Addr} {ns : List Int} (h : H l = some (.lst (ns.map V.int))) : Dp K H (.ref l) (pyD (.lst (ns.map .int))) := by
  have g : Same g0 H := fun a u e => by cases e
  exact slot_dp (n := 1) (W := ⟨NoM, AnyJ, g0, H, no_mut, no_mut2, fun _ z => z.elim, g, trivial⟩) (G := g0) (s := .seq .view (ns.map .int)) (fun z => nomatch z)
    ⟨l, _, rfl, h, rfl, fun z => z, (fun z => by cases z), (fun z => by cases z), RpAll.of_ints ns⟩ g (by
      show ((ns.map DD.int).all fun d => pl 0 d) = true
      rw [List.all_map, List.all_eq_true]
      intro x _; rfl)
theorem pl_ints (ns : List Int) : pl 1 (.lst (ns.map .int)) = true := by
  show ((ns.map DD.int).all fun d => pl 0 d) = true
  rw [List.all_map, List.all_eq_true]
  intro x _; rfl
theorem r_ne (h0 : σ[0]? = some (some (.ref i.1))) (c : CS i cs bl H) (q : ∀ p, H p = none → Q (.bl (decide (cs ≠ []))) (upd H p (.lst []))) :
    tOp (rNeD K) (tOp (rIx K) (tVar 0) (tC (.int 0))) (tLst tNil) σ H Q :=
  r_c0 h0 c ⟨by show 0 ≤ sizeLine; decide, fun p hp => by
    have c2 := c.off (o := .lst []) hp
    refine ⟨_, _, dp_ints c2.2.2.1, dp_ints (ns := []) upd_same, shaped_of K (n := 1) (by decide) (pl_ints cs), shaped_of K (n := 1) (by decide) (pl_ints []), ?_⟩
    have e : (!PyData.eqv (pyD (.lst (cs.map .int))) (pyD (.lst (([] : List Int).map .int)))) = decide (cs ≠ []) := by
      have := eqv_iff 1 _ _ (pl_ints cs) (pl_ints [])
      by_cases h : cs = []
      · subst h
        rw [this.mpr rfl]; simp
      · have n : ¬ PyData.eqv (pyD (.lst (cs.map .int))) (pyD (.lst (([] : List Int).map .int))) = true := fun z => h (by
          have := DD.lst.inj (this.mp z)
          exact List.map_eq_nil_iff.mp this)
        rw [Bool.eq_false_iff.mpr n]; simp [h]
    rw [e]
    exact q p hp⟩
/-- the first cell is taken out -/
theorem r_pop {x : Int} {r : List Int} (h0 : σ[0]? = some (some (.ref i.1))) (c : CS i (x :: r) bl H) (q : Q (.int x) (upd H i.2 (.lst (r.map V.int)))) : tBM K "list" rPopAt (tOp (rIx K) (tVar 0) (tC (.int 0))) (tCons (tC (.int 0)) tNil) σ H Q :=
  r_c0 h0 c ⟨.inl ⟨rfl, _, SqL.of c.2.2.1⟩, ⟨i.2, _, 0, 0, .int x, rfl, rfl, c.2.2.1, by decide, by decide, seqIndex_of (by decide) (by simp), rfl, q⟩⟩
end
end Dl

set_option Elab.async false
set_option linter.all false
set_option maxRecDepth 100000
set_option maxHeartbeats 1000000
namespace Dl
open PySem PySem.Spec PyProof.Rows L2
local macro_rules | `(tactic| wtm_at "d") => `(tactic| first
  | with_reducible refine sd_seq ?_ | with_reducible refine sd_if ?_ | with_reducible refine sd_ret ?_
  | with_reducible refine evp_op ?_ | with_reducible refine evp_un ?_ | with_reducible refine evp_cb ?_ | with_reducible refine evp_tupD ?_
  | with_reducible refine evp_andV ?_ | with_reducible refine evp_orV ?_ | with_reducible refine evp_notV ?_ | with_reducible refine evp_if ?_
  | with_reducible refine evt_test ?_ | with_reducible refine evt_B ?_ | with_reducible refine evt_and ?_ | with_reducible refine evt_or ?_ | with_reducible refine evt_not ?_
  | with_reducible refine eva_cons ?_ | with_reducible refine eva_nil ?_
  | with_reducible refine evp_int ?_ | with_reducible refine evp_str ?_ | with_reducible refine evp_bl ?_ | with_reducible refine evp_non ?_ | with_reducible refine evp_any ?_
  | (with_reducible refine evp_isv ?_; refine evp_dat rfl ?_)
  | with_reducible refine evp_callP ?_ | with_reducible refine evp_chain ?_
  | with_reducible refine sd_next ?_
  | with_reducible refine opp_add ?_ | with_reducible refine opp_sub ?_ | with_reducible refine opp_lt ?_ | with_reducible refine opp_le ?_ | with_reducible refine opp_gt ?_ | with_reducible refine opp_ge ?_
  | with_reducible refine opp_isN ?_ | with_reducible refine opp_notN ?_ | with_reducible refine unp_neg ?_
  | with_reducible refine ex_bl ?_ | with_reducible refine ex_dat ?_ | with_reducible refine ex_int ?_)
local macro_rules | `(tactic| wtm_at "e") => `(tactic| first | wtm_at "d" | with_reducible refine sd_set ?_)
variable {P : Program} {w : World} {K : PySem.W.Frag} {mg : Str → Option Value} {base : Heap} {A : Ads}
/-! _law_any -/
theorem r_eq0 {W : Wd} {K : PySem.W.Frag} {i : Addr × Addr} {σ : L2.St} {G H : Hp} {Q : VK} {bl x : Int} {r : List Int} (h0 : σ[0]? = some (some (.ref i.1))) (c : CS i (x :: r) bl H) (g : Same G H) (q : ∀ k : Bool, (k = true ↔ x = 0) → Q (.bl k) H) :
    tOp (rEqD K) (tOp (rIx K) (tOp (rIx K) (tVar 0) (tC (.int 0))) (tC (.int 0))) (tC (.int 0)) σ H Q := by
  refine r_c0 h0 c (.inl ⟨i.2, _, 0, .int x, rfl, rfl, SqL.of c.2.2.1, atI_nat (j := 0) (v := V.int x) (xs := (x :: r).map V.int) rfl, ?_⟩)
  have e : Same g0 H := fun a u e => by cases e
  refine ⟨_, _, slot_dp (W := ⟨NoM, AnyJ, g0, H, no_mut, no_mut2, fun _ z => z.elim, e, trivial⟩) (s := .dat (.int x)) (n := 0) (fun z => nomatch z) (vd (Rp.int x)) e rfl,
    slot_dp (W := ⟨NoM, AnyJ, g0, H, no_mut, no_mut2, fun _ z => z.elim, e, trivial⟩) (s := .dat (.int 0)) (n := 0) (fun z => nomatch z) (vd (Rp.int 0)) e rfl, shaped_of K (n := 0) (by decide) rfl, shaped_of K (n := 0) (by decide) rfl, ?_⟩
  exact q _ ((eqv_iff 0 _ _ rfl rfl).trans ⟨fun z => DD.int.inj z, fun z => by rw [z]⟩)

def rIns : V → List V → Hp → VK → Prop := fun x vs H Q => ∃ (l : Addr) (xs : List V) (i : Int) (y : V), x = .ref l ∧ vs = [.int i, y] ∧ H l = some (.lst xs) ∧ xs.length < sizeLine ∧ 0 ≤ i ∧ i < 2 ^ 63 ∧ Q .non (upd H l (.lst (xs.take i.toNat ++ [y] ++ xs.drop i.toNat)))
/-- the def's end, behind the while -/
def tAnyTail (K : PySem.W.Frag) : TS := tSeq (tIfS (tTest (tOp (rNeD K) (tOp (rIx K) (tVar 0) (tC (.int 0))) (tLst tNil)))
    (tSeq (tAsg (tCB cInt (tCons (tBM K "list" rPopAt (tOp (rIx K) (tVar 0) (tC (.int 0))) (tCons (tC (.int 0)) tNil)) tNil)) (gName 2))
      (tSeq (tDrop (tBM K "list" rIns (tOp (rIx K) (tVar 0) (tC (.int 0))) (tCons (tC (.int 0)) (tCons (tOp rDivI (tVar 2) (tVar 1)) tNil)))) (tRet (tOp rModI (tVar 2) (tVar 1))))) tNext)
  (tSeq (tAsg (tOp rModI (tCB cInt (tCons (tOp rAddU (tOp rMulI (tOp (rIx K) (tVar 0) (tC (.int 1))) (tC (.int 39373))) (tC (.int 59))) tNil)) (tC (.int 2147483647))) (gSub (tVar 0) (tC (.int 1)) L2.rSetL))
    (tRet (tOp rModI (tCB cInt (tCons (tOp rDivI (tOp (rIx K) (tVar 0) (tC (.int 1))) (tC (.int 128))) tNil)) (tVar 1))))
theorem any_tail {W : Wd} {K : PySem.W.Frag} {i : Addr × Addr} {σ : L2.St} {G H H1 : Hp} {D : Ends} {bl bound : Int} {cs : List Int} (hM : W.M = dM i) (hJ : W.J = dJ i) (hb0 : 0 < bound) (hb1 : bound < 1073741824) (cur : W.Cur G H)
    (h0 : σ[0]? = some (some (.ref i.1))) (h1 : σ[1]? = some (some (.int bound))) (hl : σ.length = 3) (hret : ∀ {H2 : Hp} {r : Int}, W.Go G H G H2 → 0 ≤ r → r < bound → D.rt (.int r) H2)
    (f1 : W.Go G H G H1) (c1 : CS i cs bl H1) : tAnyTail K D σ H1 := by
  refine r_ne h0 c1 fun p2 hp2 => ⟨_, rfl, ?_⟩
  have c2 := c1.off (o := .lst []) hp2
  have f2 := f1.trans (W.newH (o := .lst []) (cur.trans f1) hp2)
  rcases cs with _ | ⟨x, r⟩
  · show if decide (([] : List Int) ≠ []) = true then _ else _
    rw [if_neg (by decide)]
    refine r_c1 h0 c2 ⟨_, _, rfl, rfl, .inr ⟨by decide, by decide⟩, .inl ⟨_, _, rfl, rfl, .inl ⟨_, rfl, ⟨_, _, rfl, rfl, by show (0 : Int) < 2147483647; decide, ?_⟩⟩⟩⟩
    refine ⟨_, h0, ⟨i.1, _, 1, 1, rfl, rfl, c2.2.1, rfl, ?_⟩⟩
    have c3 := c2.blend (bl' := (bl * 39373 + 59) % 2147483647)
    have f3 := go_deal hM hJ cur f2 (off_upd (.inl rfl)) ⟨_, _, c3⟩
    exact r_c1 h0 c3 ⟨_, _, rfl, rfl, ⟨by decide, by decide⟩, .inl ⟨_, rfl, ⟨_, h1, ⟨_, _, rfl, rfl, hb0, hret f3 (Int.emod_nonneg _ (by omega)) (Int.emod_lt_of_pos _ hb0)⟩⟩⟩⟩
  · show if decide ((x :: r) ≠ []) = true then _ else _
    rw [if_pos (by simp)]
    have hr : r.length ≤ 60 := by have := c2.2.2.2; simp at this; omega
    refine r_pop h0 c2 (.inl ⟨_, rfl, ?_⟩)
    have c3 := c2.cells (cs' := r) hr
    have f3 := go_deal hM hJ cur f2 (off_upd (.inr rfl)) ⟨_, _, c3⟩
    have e0 : (σ.set 2 (some (.int x)))[0]? = some (some (.ref i.1)) := by rw [List.getElem?_set_ne (by decide)]; exact h0
    have e1 : (σ.set 2 (some (.int x)))[1]? = some (some (.int bound)) := by rw [List.getElem?_set_ne (by decide)]; exact h1
    have e2 : (σ.set 2 (some (.int x)))[2]? = some (some (.int x)) := by rw [List.getElem?_set_self (by omega)]
    show tSeq _ _ _ (σ.set 2 (some (.int x))) _
    refine r_c0 e0 c3 ⟨.inl ⟨rfl, _, SqL.of c3.2.2.1⟩, ?_⟩
    refine ⟨_, e2, ⟨_, e1, ⟨_, _, rfl, rfl, ⟨hb0, hb1⟩, ?_⟩⟩⟩
    refine ⟨i.2, _, 0, _, rfl, rfl, c3.2.2.1, by rw [List.length_map]; exact sz_lt (by omega), by decide, by decide, ?_⟩
    have c4 := c3.cells (cs' := x / bound :: r) (by have := c2.2.2.2; simpa using this)
    have f4 := go_deal hM hJ cur f3 (off_upd (.inr rfl)) ⟨_, _, c4⟩
    exact ⟨_, e2, ⟨_, e1, ⟨_, _, rfl, rfl, hb0, hret f4 (Int.emod_nonneg _ (by omega)) (Int.emod_lt_of_pos _ hb0)⟩⟩⟩
abbrev c__law_any (i : Addr × Addr) : List Slot → (DD → Prop) → ErrP → Prop := fun ss R _ => ∃ bound : Int, ss = [.dat (.any (.ref i.1)), .dat (.int bound)] ∧ 0 < bound ∧ bound < 1073741824 ∧ ∀ r : Int, 0 ≤ r → r < bound → R (.int r)
theorem ok__law_any (T : Txt K mg A) : FD P w K mg base CX0 1 A._law_any ["_law_deal", "_law_bound"] (spD c__law_any) := by
  obtain ⟨fd, F⟩ := T.F__law_any
  refine ⟨F.kp, fd, ?_, F.binds fun _ _ _ _ _ _ us hl => match us, hl with | [_, _], _ => rfl⟩
  refine fn_spD fun i => fn_sd F sc__law_any (d_jl i) (d_jm i) ?len (by decide) fun cdv B outer s H E hr => ⟨_,
    (pss_cons (ps_while PassesOwn.never (PW.pt (pw_and (pt_cmpR (r := rNeD K) (op_neD hr.units) (pe_ix (r := rIx K) ix_seq (pv 0) pe_int (fun _ _ => rfl)) (pe_lst pa_nil) (nomark _)) (pw_and1 (pt_cmpR (r := rEqD K) (op_eqD hr.units) (pe_ix (r := rIx K) ix_seq (pe_ix (r := rIx K) ix_seq (pv 0) pe_int (fun _ _ => rfl)) pe_int (fun _ _ => rfl)) pe_int (nomark _)))))
      (pss_one (ps_expr (pe_bm PySem.F.plainAttrs_list PySem.F.slot_list_pop PySem.F.type_list_pop mt_popAt (pe_ix (r := rIx K) ix_seq (pv 0) pe_int (fun _ _ => rfl)) (pa_cons pe_int pa_nil)))))
      (pss_cons (ps_if (pt_cmpR (r := rNeD K) (op_neD hr.units) (pe_ix (r := rIx K) ix_seq (pv 0) pe_int (fun _ _ => rfl)) (pe_lst pa_nil) (nomark _))
      (pss_cons (ps_set (i := 2) sc__law_any.nd rfl (Or.inl rfl) (pe_callTy (T := "int") (r := cInt) call_cInt (by rfl) T.n_int (by decide +kernel) (pa_cons (pe_bm PySem.F.plainAttrs_list PySem.F.slot_list_pop PySem.F.type_list_pop mt_popAt (pe_ix (r := rIx K) ix_seq (pv 0) pe_int (fun _ _ => rfl)) (pa_cons pe_int pa_nil)) pa_nil)))
      (pss_cons (ps_expr (pe_bm PySem.F.plainAttrs_list PySem.F.slot_list_insert PySem.F.type_list_insert mt_insert (pe_ix (r := rIx K) ix_seq (pv 0) pe_int (fun _ _ => rfl)) (pa_cons pe_int (pa_cons (pe_op op_divI (pv 2) (pv 1)) pa_nil))))
      (pss_one (ps_ret (pe_op op_modI (pv 2) (pv 1))))))
      pss_nil)
      (pss_cons (ps_asg (pe_op op_modI (pe_callTy (T := "int") (r := cInt) call_cInt (by rfl) T.n_int (by decide +kernel) (pa_cons (pe_op op_addU (pe_op op_mulI (pe_ix (r := rIx K) ix_seq (pv 0) pe_int (fun _ _ => rfl)) pe_int) pe_int) pa_nil)) pe_int) (pg_sub (pv 0) pe_int set_list))
      (pss_one (ps_ret (pe_op op_modI (pe_callTy (T := "int") (r := cInt) call_cInt (by rfl) T.n_int (by decide +kernel) (pa_cons (pe_op op_divI (pe_ix (r := rIx K) ix_seq (pv 0) pe_int (fun _ _ => rfl)) pe_int) pa_nil)) (pv 1))))))), ?body⟩
  case len => intro ss R RE hc; (first | (obtain ⟨_, rfl, _⟩ := hc; rfl) | (obtain ⟨_, _, rfl, _⟩ := hc; rfl) | (obtain ⟨_, _, _, rfl, _⟩ := hc; rfl) | (obtain ⟨_, _, _, _, rfl, _⟩ := hc; rfl) | (obtain ⟨_, _, _, _, _, rfl, _⟩ := hc; rfl) | (obtain ⟨_, _, _, _, _, _, rfl, _⟩ := hc; rfl) | (obtain ⟨_, _, _, _, _, _, _, rfl, _⟩ := hc; rfl) | (obtain ⟨_, _, _, _, _, _, _, _, rfl, _⟩ := hc; rfl) | (obtain ⟨_, _, _, _, _, _, _, _, _, rfl, _⟩ := hc; rfl) | (obtain ⟨_, _, _, _, _, _, _, _, _, _, rfl, _⟩ := hc; rfl) | (obtain ⟨_, _, _, _, _, _, _, _, _, _, _, rfl, _⟩ := hc; rfl))
  case body =>
    rintro W ss R RE hM hJ ⟨bound, rfl, hb0, hb1, hR⟩
    intro σ G H S D F
    obtain ⟨x0, h0, v0⟩ := S.sl 0 (.dat (.any (.ref i.1))) rfl (fun z => nomatch z)
    obtain ⟨x1, h1, v1⟩ := S.sl 1 (.dat (.int bound)) rfl (fun z => nomatch z)
    cases v0; cases v1
    have hl : σ.length = 3 := S.len
    have hret : ∀ {H2 : Hp} {r : Int}, W.Go G H G H2 → 0 ≤ r → r < bound → D.rt (.int r) H2 := fun f a b => F.rt _ G _ _ (S.cur.trans f) (Rp.int _) (hR _ a b)
    obtain ⟨cs0, bl0, c0⟩ : dJ i H := by rw [← hJ]; exact S.cur.j
    refine ⟨fun m σ' H' => σ' = σ ∧ W.Go G H G H' ∧ ∃ cs bl, CS i cs bl H' ∧ m = cs.length, ⟨_, rfl, S.refl, cs0, bl0, c0, rfl⟩, ?_⟩
    rintro m σ' H' ⟨rfl, f, cs, bl, c, rfl⟩
    refine r_ne h0 c fun p hp => ⟨_, rfl, ?_⟩
    have c1 := c.off (o := .lst []) hp
    have f1 := f.trans (W.newH (o := .lst []) (S.cur.trans f) hp)
    rcases cs with _ | ⟨x, r⟩
    · show if decide (([] : List Int) ≠ []) = true then _ else _
      rw [if_neg (by decide)]
      show if false = true then _ else _
      rw [if_neg Bool.false_ne_true]
      exact any_tail hM hJ hb0 hb1 S.cur h0 h1 hl hret f1 c1
    · show if decide ((x :: r) ≠ []) = true then _ else _
      rw [if_pos (by simp)]
      refine r_eq0 (W := W) h0 c1 f1.gh fun k hk => ⟨_, rfl, ?_⟩
      cases k with
      | false =>
        rw [if_neg Bool.false_ne_true]
        exact any_tail hM hJ hb0 hb1 S.cur h0 h1 hl hret f1 c1
      | true =>
        rw [if_pos rfl]
        refine ⟨_, fun σ2 H2 z => z, ?_⟩
        have hr : r.length ≤ 60 := by have := c1.2.2.2; simp at this; omega
        have c3 := c1.cells (cs' := r) hr
        have f3 := go_deal hM hJ S.cur f1 (off_upd (.inr rfl)) ⟨_, _, c3⟩
        exact r_pop h0 c1 ⟨r.length, by simp, rfl, f3, r, bl, c3, rfl⟩
end Dl

set_option Elab.async false
set_option linter.all false
set_option maxRecDepth 100000
set_option maxHeartbeats 1000000
/-! D15: a.append(b.pop(e)), lists of the def's own. -/
namespace Dl
open PySem PySem.Spec PyProof.Rows L2
section
variable {W : Wd} {ρ : List Slot} {K : PySem.W.Frag} {P : Slot → Prop} {E : DE} {i j : Nat} {te : TE}
theorem sd_appPop {ls os : List DD} (hij : i ≠ j) (hi : ρ[i]? = some (.seq .own ls)) (hj : ρ[j]? = some (.seq .own os)) (hz : os.length < 100000) (h : EvP W te ρ fun s => ∃ k : Nat, s = .dat (.int (k : Int)) ∧ k < ls.length ∧ k < 100000 ∧
      E.nx ((ρ.set i (.seq .own (ls.eraseIdx k))).set j (.seq .own (os ++ [itemsOf ls k])))) :
    SD W (tDrop (tBM K "list" rAppend (tVar j) (tCons (tBM K "list" rPopAt (tVar i) (tCons te tNil)) tNil))) ρ E := fun σ G H S D F => by
  obtain ⟨x, h1, l, xs, rfl, h2, h3, h4, h5, _, h6⟩ := S.sl i _ hi (fun z => by cases z)
  obtain ⟨y, k1, q, ys, rfl, k2, k3, k4, k5, _, k6⟩ := S.sl j _ hj (fun z => by cases z)
  have ne : q ≠ l := fun z => by
    subst z
    exact S.ap i j .own ls os q hij hi hj h1 k1
  refine ⟨_, k1, .inl ⟨rfl, ys, SqL.of k2⟩, _, h1, .inl ⟨rfl, xs, SqL.of h2⟩, ?_⟩
  refine h σ G H S _ fun z G1 H1 s f1 v1 ⟨k, e, hk, hk2, p⟩ => ?_
  subst e; cases v1
  have h2' := f1.keep l _ h4 h2
  have h3' := f1.dom l (by rw [h2]; exact fun z => nomatch z) h3
  have k2' := f1.keep q _ k4 k2
  have k3' := f1.dom q (by rw [k2]; exact fun z => nomatch z) k3
  have hl := h6.length
  obtain ⟨v, hv, rv⟩ := h6.get (itemsOf_lt hk)
  have S1 := (S.go f1).upd hi h1 h2' h3' h4 (h5 rfl) ((h6.mono f1.gg).eraseIdx k)
  have hj' : (ρ.set i (.seq .own (ls.eraseIdx k)))[j]? = some (.seq .own os) := by rw [List.getElem?_set_ne hij]; exact hj
  have k2'' : (upd H1 l (.lst (xs.eraseIdx k))) q = some (.lst ys) := by rw [upd_ne ne]; exact k2'
  refine ⟨l, xs, _, k, v, rfl, rfl, h2', by omega, by omega, by rw [seqIndex_of (by omega) (by omega)]; simp, hv, ?_⟩
  refine ⟨q, ys, v, rfl, rfl, k2'', by rw [k6.length]; exact sz_lt hz, ?_⟩
  exact F.nx _ G1 _ _ (S1.upd hj' k1 k2'' k3' k4 (k5 rfl) ((k6.mono f1.gg).snoc (rv.mono f1.gg))) f1.gg p
end
end Dl

set_option Elab.async false
set_option linter.all false
set_option maxRecDepth 100000
set_option maxHeartbeats 1000000
namespace Dl
open PySem PySem.Spec PyProof.Rows L2
local macro_rules | `(tactic| wtm_at "d") => `(tactic| first
  | with_reducible refine sd_seq ?_ | with_reducible refine sd_if ?_ | with_reducible refine sd_ret ?_
  | with_reducible refine evp_op ?_ | with_reducible refine evp_un ?_ | with_reducible refine evp_cb ?_ | with_reducible refine evp_tupD ?_
  | with_reducible refine evp_andV ?_ | with_reducible refine evp_orV ?_ | with_reducible refine evp_notV ?_ | with_reducible refine evp_if ?_
  | with_reducible refine evt_test ?_ | with_reducible refine evt_B ?_ | with_reducible refine evt_and ?_ | with_reducible refine evt_or ?_ | with_reducible refine evt_not ?_
  | with_reducible refine eva_cons ?_ | with_reducible refine eva_nil ?_
  | with_reducible refine evp_int ?_ | with_reducible refine evp_str ?_ | with_reducible refine evp_bl ?_ | with_reducible refine evp_non ?_ | with_reducible refine evp_any ?_
  | (with_reducible refine evp_isv ?_; refine evp_dat rfl ?_)
  | with_reducible refine evp_callP ?_ | with_reducible refine evp_chain ?_
  | with_reducible refine sd_next ?_
  | with_reducible refine opp_add ?_ | with_reducible refine opp_sub ?_ | with_reducible refine opp_lt ?_ | with_reducible refine opp_le ?_ | with_reducible refine opp_gt ?_ | with_reducible refine opp_ge ?_
  | with_reducible refine opp_isN ?_ | with_reducible refine opp_notN ?_ | with_reducible refine unp_neg ?_
  | with_reducible refine ex_bl ?_ | with_reducible refine ex_dat ?_ | with_reducible refine ex_int ?_)
local macro_rules | `(tactic| wtm_at "e") => `(tactic| first | wtm_at "d" | with_reducible refine sd_set ?_)
variable {P : Program} {w : World} {K : PySem.W.Frag} {mg : Str → Option Value} {base : Heap} {A : Ads}
/-! _law_of, _law_mixed -/
abbrev c__law_of (i : Addr × Addr) : List Slot → (DD → Prop) → ErrP → Prop := fun ss R _ => ∃ s ds, ss = [.dat (.any (.ref i.1)), s] ∧ SeqS s ds ∧ 0 < ds.length ∧ ds.length ≤ 1000 ∧ ∀ k, k < ds.length → R (itemsOf ds k)
theorem ok__law_of (T : Txt K mg A) : FD P w K mg base CX0 2 A._law_of ["_law_deal", "_law_some"] (spD c__law_of) := by
  obtain ⟨fd, F⟩ := T.F__law_of
  obtain ⟨k__law_any, fd__law_any, G__law_any, B__law_any⟩ := ok__law_any (P := P) (w := w) (base := base) T
  refine ⟨F.kp, fd, ?_, F.binds fun _ _ _ _ _ _ us hl => match us, hl with | [_, _], _ => rfl⟩
  refine fn_spD fun i => fn_sd F sc__law_of (d_jl i) (d_jm i) ?len (by decide) fun cdv B outer s H E hr => ⟨_,
    (pss_one (ps_ret (pe_ix (r := rIx K) ix_seq (pv 1) (pe_call G__law_any (hr.mono (by decide)) (by rfl) T.g__law_any k__law_any B__law_any .nil pass0 (pa_cons (pv 0) (pa_cons (pe_callB (r := cLen K) call_cLen (by rfl) T.n_len (by decide +kernel) (pa_cons (pv 1) pa_nil)) pa_nil))) (fun _ _ => rfl)))), ?body⟩
  case len => intro ss R RE hc; (first | (obtain ⟨_, rfl, _⟩ := hc; rfl) | (obtain ⟨_, _, rfl, _⟩ := hc; rfl) | (obtain ⟨_, _, _, rfl, _⟩ := hc; rfl) | (obtain ⟨_, _, _, _, rfl, _⟩ := hc; rfl) | (obtain ⟨_, _, _, _, _, rfl, _⟩ := hc; rfl) | (obtain ⟨_, _, _, _, _, _, rfl, _⟩ := hc; rfl) | (obtain ⟨_, _, _, _, _, _, _, rfl, _⟩ := hc; rfl) | (obtain ⟨_, _, _, _, _, _, _, _, rfl, _⟩ := hc; rfl) | (obtain ⟨_, _, _, _, _, _, _, _, _, rfl, _⟩ := hc; rfl) | (obtain ⟨_, _, _, _, _, _, _, _, _, _, rfl, _⟩ := hc; rfl) | (obtain ⟨_, _, _, _, _, _, _, _, _, _, _, rfl, _⟩ := hc; rfl))
  case body =>
    rintro W ss R RE hM hJ ⟨s, ds, rfl, hs, hb0, hb1, hR⟩
    repeat (wtm_at "d")
    refine evp_seq rfl hs ?_
    refine evp_callL0 hM hJ ?_
    repeat (wtm_at "d")
    refine evp_seq rfl hs ?_
    repeat (wtm_at "d")
    refine cap_len (seqS_lend hs) ?_
    repeat (wtm_at "d")
    refine ⟨rfl, _, rfl, by omega, by omega, fun r h0 h1 => ?_⟩
    obtain ⟨k, rfl⟩ : ∃ k : Nat, r = (k : Int) := ⟨r.toNat, by omega⟩
    refine opp_ixn (seqS_lend hs) (itemsOf_lt (by omega)) ?_
    repeat (wtm_at "d")
    exact hR k (by omega)
abbrev c__law_mixed (i : Addr × Addr) : List Slot → (DD → Prop) → ErrP → Prop := fun ss R _ => ∃ s ds, ss = [.dat (.any (.ref i.1)), s] ∧ SeqS s ds ∧ ds.length ≤ 1000 ∧ (∀ d ∈ ds, pl 1 d = true) ∧ ∀ es : List DD, es.length = ds.length → (∀ d ∈ es, d ∈ ds) → R (.lst es)
theorem ok__law_mixed (T : Txt K mg A) : FD P w K mg base CX0 2 A._law_mixed ["_law_deal", "_law_some"] (spD c__law_mixed) := by
  obtain ⟨fd, F⟩ := T.F__law_mixed
  obtain ⟨k__law_any, fd__law_any, G__law_any, B__law_any⟩ := ok__law_any (P := P) (w := w) (base := base) T
  refine ⟨F.kp, fd, ?_, F.binds fun _ _ _ _ _ _ us hl => match us, hl with | [_, _], _ => rfl⟩
  refine fn_spD fun i => fn_sd F sc__law_mixed (d_jl i) (d_jm i) ?len (by decide) fun cdv B outer s H E hr => ⟨_,
    (pss_cons (ps_par (i := 2) (j := 3) (by rfl) sc__law_mixed.nd rfl rfl (by decide) rfl rfl (pa_cons (pe_callTy (T := "list") (r := cLst K) call_cLst (by rfl) T.n_list (by decide +kernel) (pa_cons (pv 1) pa_nil)) (pa_cons (pe_lst pa_nil) pa_nil)) (by rfl))
      (pss_cons (ps_while PassesOwn.never (pt_cmpR (r := rNeD K) (op_neD hr.units) (pv 2) (pe_lst pa_nil) (nomark _))
      (pss_one (ps_expr (pe_bm PySem.F.plainAttrs_list PySem.F.slot_list_append PySem.F.type_list_append mt_append (pv 3) (pa_cons (pe_bm PySem.F.plainAttrs_list PySem.F.slot_list_pop PySem.F.type_list_pop mt_popAt (pv 2) (pa_cons (pe_call G__law_any (hr.mono (by decide)) (by rfl) T.g__law_any k__law_any B__law_any .nil pass0 (pa_cons (pv 0) (pa_cons (pe_callB (r := cLen K) call_cLen (by rfl) T.n_len (by decide +kernel) (pa_cons (pv 2) pa_nil)) pa_nil))) pa_nil)) pa_nil)))))
      (pss_one (ps_ret (pv 3))))), ?body⟩
  case len => intro ss R RE hc; (first | (obtain ⟨_, rfl, _⟩ := hc; rfl) | (obtain ⟨_, _, rfl, _⟩ := hc; rfl) | (obtain ⟨_, _, _, rfl, _⟩ := hc; rfl) | (obtain ⟨_, _, _, _, rfl, _⟩ := hc; rfl) | (obtain ⟨_, _, _, _, _, rfl, _⟩ := hc; rfl) | (obtain ⟨_, _, _, _, _, _, rfl, _⟩ := hc; rfl) | (obtain ⟨_, _, _, _, _, _, _, rfl, _⟩ := hc; rfl) | (obtain ⟨_, _, _, _, _, _, _, _, rfl, _⟩ := hc; rfl) | (obtain ⟨_, _, _, _, _, _, _, _, _, rfl, _⟩ := hc; rfl) | (obtain ⟨_, _, _, _, _, _, _, _, _, _, rfl, _⟩ := hc; rfl) | (obtain ⟨_, _, _, _, _, _, _, _, _, _, _, rfl, _⟩ := hc; rfl))
  case body =>
    rintro W ss R RE hM hJ ⟨s, ds, rfl, hs, hb1, hpl, hR⟩
    refine sd_seq (sd_parOwn (by decide) (evf_cb ?_))
    repeat (wtm_at "d")
    refine evp_seq rfl hs ?_
    repeat (wtm_at "d")
    refine caf_list (seqS_lend hs) ?_
    refine evf_lstD ?_
    repeat (wtm_at "d")
    refine ⟨_, rfl, by decide, ?_⟩
    repeat (wtm_at "d")
    refine sd_while (fun m ρ => ∃ ls os, ρ = [.dat (.any (.ref i.1)), s, .seq .own ls, .seq .own os] ∧ m = ls.length ∧ ls.length + os.length = ds.length ∧ (∀ d ∈ ls, d ∈ ds) ∧ ∀ d ∈ os, d ∈ ds) ds.length ⟨ds, [], rfl, rfl, rfl, fun _ h => h, fun _ h => by cases h⟩ ?_
    rintro m ρ ⟨ls, os, rfl, rfl, hlen, hls, hos⟩
    repeat (wtm_at "d")
    refine evp_var (s := .seq .own ls) rfl (fun h => nomatch h) ?_
    refine evp_new (evf_lstD ?_)
    repeat (wtm_at "d")
    refine ⟨_, rfl, by decide, ?_⟩
    have pls : pl 2 (.lst ls) = true := by
      show (ls.all fun d => pl 1 d) = true
      rw [List.all_eq_true]
      exact fun d hd => hpl d (hls d hd)
    refine opp_ne (n := 2) (by decide) (fun h => nomatch h) (nn _) pls rfl fun q hq => ?_
    refine ⟨q, rfl, fun h => ?_, fun h => ?_⟩
    · have hne : ls ≠ [] := fun z => hq.mp h (congrArg DD.lst z)
      have h0 : 0 < ls.length := List.length_pos_iff.mpr hne
      refine sd_appPop (i := 2) (j := 3) (by decide) rfl rfl (by omega) ?_
      refine evp_callL0 hM hJ ?_
      repeat (wtm_at "d")
      refine evp_var (s := .seq .own ls) rfl (fun h => nomatch h) ?_
      repeat (wtm_at "d")
      refine cap_len (.seq _ _) ?_
      repeat (wtm_at "d")
      refine ⟨rfl, _, rfl, by omega, by omega, fun r h0 h1 => ?_⟩
      obtain ⟨k, rfl⟩ : ∃ k : Nat, r = (k : Int) := ⟨r.toNat, by omega⟩
      have hk : k < ls.length := by omega
      refine ⟨k, rfl, hk, by omega, (ls.eraseIdx k).length, by rw [List.length_eraseIdx]; split <;> omega, ls.eraseIdx k, os ++ [itemsOf ls k], rfl, rfl, ?_, fun d hd => hls d (List.mem_of_mem_eraseIdx hd), fun d hd => ?_⟩
      · rw [List.length_eraseIdx, if_pos hk, List.length_append]
        show ls.length - 1 + (os.length + 1) = _
        omega
      · rcases List.mem_append.mp hd with z | z
        · exact hos d z
        · have : d = itemsOf ls k := by simpa using z
          rw [this]
          exact hls _ (List.mem_of_getElem? (itemsOf_lt hk))
    · have he : ls = [] := by
        cases ls with
        | nil => rfl
        | cons a l =>
          have : q = true := hq.mpr fun z => by cases (DD.lst.inj z)
          rw [this] at h; cases h
      subst he
      show SD W _ _ _
      exact sd_retOwn (m := .own) rfl (hR os (by simpa using hlen) hos)
end Dl

set_option Elab.async false
set_option linter.all false
set_option maxRecDepth 100000
set_option maxHeartbeats 1000000
namespace Dl
open PySem PySem.Spec PyProof.Rows L2
local macro_rules | `(tactic| wtm_at "d") => `(tactic| first
  | with_reducible refine sd_seq ?_ | with_reducible refine sd_if ?_ | with_reducible refine sd_ret ?_
  | with_reducible refine evp_op ?_ | with_reducible refine evp_un ?_ | with_reducible refine evp_cb ?_ | with_reducible refine evp_tupD ?_
  | with_reducible refine evp_andV ?_ | with_reducible refine evp_orV ?_ | with_reducible refine evp_notV ?_ | with_reducible refine evp_if ?_
  | with_reducible refine evt_test ?_ | with_reducible refine evt_B ?_ | with_reducible refine evt_and ?_ | with_reducible refine evt_or ?_ | with_reducible refine evt_not ?_
  | with_reducible refine eva_cons ?_ | with_reducible refine eva_nil ?_
  | with_reducible refine evp_int ?_ | with_reducible refine evp_str ?_ | with_reducible refine evp_bl ?_ | with_reducible refine evp_non ?_ | with_reducible refine evp_any ?_
  | (with_reducible refine evp_isv ?_; refine evp_dat rfl ?_)
  | with_reducible refine evp_callP ?_ | with_reducible refine evp_chain ?_
  | with_reducible refine sd_next ?_
  | with_reducible refine opp_add ?_ | with_reducible refine opp_sub ?_ | with_reducible refine opp_lt ?_ | with_reducible refine opp_le ?_ | with_reducible refine opp_gt ?_ | with_reducible refine opp_ge ?_
  | with_reducible refine opp_isN ?_ | with_reducible refine opp_notN ?_ | with_reducible refine unp_neg ?_
  | with_reducible refine ex_bl ?_ | with_reducible refine ex_dat ?_ | with_reducible refine ex_int ?_)
local macro_rules | `(tactic| wtm_at "e") => `(tactic| first | wtm_at "d" | with_reducible refine sd_set ?_)
variable {P : Program} {w : World} {K : PySem.W.Frag} {mg : Str → Option Value} {base : Heap} {A : Ads}
/-! _law_plan -/
theorem evf_listRg1 {W : Wd} {ρ : List Slot} {PL : List DD → Prop} {te : TE} (h : EvP W te ρ fun s => ∃ n : Nat, s = .dat (.int (n : Int)) ∧ n ≤ 100000 ∧ PL (nD (List.range n))) : EvF W (tLstRg (tRg1 te)) ρ PL := fun σ G H S Q q =>
  h σ G H S _ fun x G1 H1 s f1 v1 ⟨n, e, hn, k⟩ => by
    subst e; cases v1
    refine ⟨_, rfl, ⟨RgOk.of_le (by omega) (by omega) (by omega) (by omega), fun p hp => ?_⟩⟩
    have f2 := f1.trans (W.newH (o := .lst (rgV 0 n)) (S.cur.trans f1) hp)
    have e : rgV 0 (n : Int) = ((List.range n).map fun k : Nat => (k : Int)).map V.int := by
      unfold rgV
      rw [List.map_map, show ((n : Int) - 0).toNat = n by omega]
      apply List.map_congr_left
      intro a _
      show V.int (0 + (a : Int)) = V.int (a : Int)
      rw [Int.zero_add]
    refine q p _ G1 _ _ f2 (f1.fr p hp) (fresh_g f1.gh hp) upd_same ?_ k
    rw [e, nD_ints]
    exact RpAll.of_ints _
def PlanOk (M : Nat) (pl : List Pl) : Prop := PlRef pl ∧ ∀ n, Pl.v n ∈ pl → n < M
theorem planOk_vs {M : Nat} {vs : List Nat} (h : ∀ x ∈ vs, x < M) : PlanOk M (vs.map .v) := by
  refine ⟨fun i p e => ?_, fun n hn => ?_⟩
  · rw [List.getElem?_map] at e
    cases z : vs[i]? with
    | none => rw [z] at e; cases e
    | some x => rw [z] at e; cases e; trivial
  · obtain ⟨x, hx, e⟩ := List.mem_map.mp hn
    cases e
    exact h _ hx
theorem planOk_snoc {M : Nat} {pl : List Pl} {b c y : Nat} (h : PlanOk M pl) (hb : b < pl.length) (hc : c < pl.length) (hy : y < pl.length) : PlanOk M (pl ++ [.m b c y]) := by
  refine ⟨fun i p e => ?_, fun n hn => ?_⟩
  · by_cases hi : i < pl.length
    · rw [List.getElem?_append_left hi] at e
      exact h.1 i p e
    · rw [List.getElem?_append_right (by omega)] at e
      have : i = pl.length := by
        have := (List.getElem?_eq_some_iff.mp e).1
        simp at this; omega
      subst this
      simp at e
      subst e
      exact ⟨hb, hc, hy⟩
  · rcases List.mem_append.mp hn with z | z
    · exact h.2 n z
    · simp at z
theorem dd_nats {M : Nat} : ∀ {es : List DD}, (∀ d ∈ es, d ∈ nD (List.range M)) → ∃ vs : List Nat, es = nD vs ∧ ∀ x ∈ vs, x < M
  | [], _ => ⟨[], rfl, fun x hx => by cases hx⟩
  | d :: es, h => by
    obtain ⟨vs, e, hv⟩ := dd_nats (es := es) fun d hd => h d (List.mem_cons_of_mem _ hd)
    obtain ⟨k, hk, rfl⟩ := List.mem_map.mp (h d List.mem_cons_self)
    refine ⟨k :: vs, by rw [e]; rfl, fun x hx => ?_⟩
    rcases List.mem_cons.mp hx with rfl | hx
    · exact List.mem_range.mp hk
    · exact hv x hx
theorem plan_tail {W : Wd} {i : Addr × Addr} {K : PySem.W.Frag} {E : DE} {Ex : XK} {many u3 u4 u7 u9 : Slot} {pl : List Pl} {bs : List Nat} {mine yours : Nat} (hM : W.M = dM i) (hJ : W.J = dJ i) (hl : pl.length ≤ 50) (h0 : 0 < bs.length) (hb : bs.length ≤ 1000)
    (k : ∀ b ∈ bs, E.nx [.dat (.any (.ref i.1)), many, .seq .own (List.map Pl.dd (pl ++ [.m b mine yours])), u3, u4, .dat (.int (mine : Int)), .dat (.int (yours : Int)), u7, .dat (.lst (nD bs)), u9]) :
    SD W (tDrop (tBM K "list" rAppend (tVar 2) (tCons (tTup (tCons (tC (.str ("merge" : Str))) (tCons (tCall (spD c__law_of) [] Ex (tCons (tVar 0) (tCons (tVar 8) tNil))) (tCons (tVar 5) (tCons (tVar 6) tNil))))) tNil)))
      [.dat (.any (.ref i.1)), many, .seq .own (List.map Pl.dd pl), u3, u4, .dat (.int (mine : Int)), .dat (.int (yours : Int)), u7, .dat (.lst (nD bs)), u9] E := by
  refine sd_app (ds := List.map Pl.dd pl) rfl (by rw [List.length_map]; omega) ?_
  repeat (wtm_at "d")
  refine evp_callL0 hM hJ ?_
  repeat (wtm_at "d")
  refine ⟨rfl, _, _, rfl, .lst _, by rw [nD_len]; exact h0, by rw [nD_len]; exact hb, fun j hj => ?_⟩
  rw [nD_len] at hj
  rw [show itemsOf (nD bs) j = .int ((bs.getD j 0 : Nat) : Int) from items_mapg (get_getD hj)]
  repeat (wtm_at "d")
  refine ⟨_, rfl, by show 4 ≤ 100000; decide, ?_⟩
  have := k (bs.getD j 0) (List.mem_of_getElem? (get_getD hj))
  rw [List.map_append] at this
  exact ⟨_, rfl, this⟩
abbrev c__law_plan (i : Addr × Addr) : List Slot → (DD → Prop) → ErrP → Prop := fun ss R _ => ∃ M : Nat, ss = [.dat (.any (.ref i.1)), .dat (.int (M : Int))] ∧ 1 ≤ M ∧ M ≤ 6 ∧ ∀ pl, PlanOk M pl → 1 ≤ pl.length → pl.length ≤ 12 → R (.lst (List.map Pl.dd pl))
theorem ok__law_plan (T : Txt K mg A) : FD P w K mg base CX0 3 A._law_plan ["_law_deal", "_law_many"] (spD c__law_plan) := by
  obtain ⟨fd, F⟩ := T.F__law_plan
  obtain ⟨k__law_mixed, fd__law_mixed, G__law_mixed, B__law_mixed⟩ := ok__law_mixed (P := P) (w := w) (base := base) T
  obtain ⟨k__law_any, fd__law_any, G__law_any, B__law_any⟩ := ok__law_any (P := P) (w := w) (base := base) T
  obtain ⟨k__law_elders, fd__law_elders, G__law_elders, B__law_elders⟩ := ok__law_elders (P := P) (w := w) (base := base) T
  obtain ⟨k__law_kin, fd__law_kin, G__law_kin, B__law_kin⟩ := ok__law_kin (P := P) (w := w) (base := base) T
  obtain ⟨k__law_of, fd__law_of, G__law_of, B__law_of⟩ := ok__law_of (P := P) (w := w) (base := base) T
  refine ⟨F.kp, fd, ?_, F.binds fun _ _ _ _ _ _ us hl => match us, hl with | [_, _], _ => rfl⟩
  refine fn_spD fun i => fn_sd F sc__law_plan (d_jl i) (d_jm i) ?len (by decide) fun cdv B outer s H E hr => ⟨_,
    (pss_cons (ps_set (i := 2) sc__law_plan.nd rfl (Or.inr rfl) (pe_op op_addU (pe_lst (pa_cons (pe_tup (pa_cons pe_str (pa_cons pe_int pa_nil))) pa_nil)) (pe_lc (own := [("_law_one", 9)]) (g := (gName 9)) (by rfl) sc__law_plan.nd (pi_seqK (K := K) rfl (pe_call G__law_mixed (hr.mono (by decide)) (by rfl) T.g__law_mixed k__law_mixed B__law_mixed .nil pass0 (pa_cons (pv 0) (pa_cons (pe_listRg rfl (by rfl) T.n_list (prg_1 (by rfl) T.n_range (pv 1))) pa_nil)))) (blkOk_by (own := [("_law_one", 9)]) (N := N__law_plan) (sc := defScope s__law_plan) (by decide +kernel)) (fun _ _ _ _ _ => (pg_name (i := 9) sc__law_plan.nd rfl (Or.inl rfl))) (fun _ _ _ _ _ => pts_nil) (fun _ _ _ _ _ => (pe_tup (pa_cons pe_str (pa_cons (pv 9) pa_nil)))))))
      (pss_cons (ps_set (i := 2) sc__law_plan.nd rfl (Or.inr rfl) (pe_slice (r := rSlU K) sl_U (pv 2) (po_some (pe_call G__law_any (hr.mono (by decide)) (by rfl) T.g__law_any k__law_any B__law_any .nil pass0 (pa_cons (pv 0) (pa_cons pe_int pa_nil)))) po_none))
      (pss_cons (ps_set (i := 3) sc__law_plan.nd rfl (Or.inl rfl) (pe_cmpR (r := rEqD K) (op_eqD hr.units) (pe_call G__law_any (hr.mono (by decide)) (by rfl) T.g__law_any k__law_any B__law_any .nil pass0 (pa_cons (pv 0) (pa_cons pe_int pa_nil))) pe_int (nomark _)))
      (pss_cons (ps_for PassesOwn.never rfl (pi_range1 (by rfl) T.n_range (pa_cons (pe_op op_addU pe_int (pe_call G__law_any (hr.mono (by decide)) (by rfl) T.g__law_any k__law_any B__law_any .nil pass0 (pa_cons (pv 0) (pa_cons pe_int pa_nil)))) pa_nil)) (pg_name (i := 4) sc__law_plan.nd rfl (Or.inl rfl))
      (pss_cons (ps_asg (pe_tup (pa_cons (pe_call G__law_any (hr.mono (by decide)) (by rfl) T.g__law_any k__law_any B__law_any .nil pass0 (pa_cons (pv 0) (pa_cons (pe_callB (r := cLen K) call_cLen (by rfl) T.n_len (by decide +kernel) (pa_cons (pv 2) pa_nil)) pa_nil))) (pa_cons (pe_call G__law_any (hr.mono (by decide)) (by rfl) T.g__law_any k__law_any B__law_any .nil pass0 (pa_cons (pv 0) (pa_cons (pe_callB (r := cLen K) call_cLen (by rfl) T.n_len (by decide +kernel) (pa_cons (pv 2) pa_nil)) pa_nil))) pa_nil))) (pg_tup rfl (pgs_cons (pg_name (i := 5) sc__law_plan.nd rfl (Or.inr rfl)) (pgs_cons (pg_name (i := 6) sc__law_plan.nd rfl (Or.inr rfl)) pgs_nil))))
      (pss_cons (ps_set (i := 7) sc__law_plan.nd rfl (Or.inr rfl) (pe_call G__law_elders (hr.mono (by decide)) (by rfl) T.g__law_elders k__law_elders B__law_elders .nil pass0 (pa_cons (pv 2) pa_nil)))
      (pss_cons (ps_setLc (i := 8) (own := [("_law_one", 9)]) (g := (gName 9)) (by rfl) sc__law_plan.nd rfl rfl (sw_true rfl rfl rfl (by decide +kernel)) (pi_range1 (by rfl) T.n_range (pa_cons (pe_callB (r := cLen K) call_cLen (by rfl) T.n_len (by decide +kernel) (pa_cons (pv 2) pa_nil)) pa_nil)) (blkOk_by (own := [("_law_one", 9)]) (N := N__law_plan) (sc := defScope s__law_plan) (by decide +kernel)) (fun _ _ _ _ _ => (pg_name (i := 9) sc__law_plan.nd rfl (Or.inl rfl))) (fun _ _ _ _ _ => (pts_one (PW.pt (pw_and (pt_val (pe_call G__law_kin (hr.mono (by decide)) (by rfl) T.g__law_kin k__law_kin B__law_kin .nil pass0 (pa_cons (pv 2) (pa_cons (pv 7) (pa_cons (pv 9) (pa_cons (pv 5) pa_nil)))))) (pw_and1 (pt_val (pe_call G__law_kin (hr.mono (by decide)) (by rfl) T.g__law_kin k__law_kin B__law_kin .nil pass0 (pa_cons (pv 2) (pa_cons (pv 7) (pa_cons (pv 9) (pa_cons (pv 6) pa_nil))))))))))) (fun _ _ _ _ _ => (pv 9)))
      (pss_cons (ps_if (PW.pt (pw_or (PW.pt (pw_and (pt_val (pv 3)) (pw_and1 (pt_cmpR (r := rEqD K) (op_eqD hr.units) (pe_call G__law_any (hr.mono (by decide)) (by rfl) T.g__law_any k__law_any B__law_any .nil pass0 (pa_cons (pv 0) (pa_cons pe_int pa_nil))) pe_int (nomark _))))) (pw_or1 (pt_cmpR (r := rEqD K) (op_eqD hr.units) (pv 8) (pe_lst pa_nil) (nomark _)))))
      (pss_one (ps_set (i := 8) sc__law_plan.nd rfl (Or.inl rfl) (pe_listRg rfl (by rfl) T.n_list (prg_1 (by rfl) T.n_range (pe_callB (r := cLen K) call_cLen (by rfl) T.n_len (by decide +kernel) (pa_cons (pv 2) pa_nil))))))
      pss_nil)
      (pss_one (ps_expr (pe_bm PySem.F.plainAttrs_list PySem.F.slot_list_append PySem.F.type_list_append mt_append (pv 2) (pa_cons (pe_tup (pa_cons pe_str (pa_cons (pe_call G__law_of (hr.mono (by decide)) (by rfl) T.g__law_of k__law_of B__law_of .nil pass0 (pa_cons (pv 0) (pa_cons (pv 8) pa_nil))) (pa_cons (pv 5) (pa_cons (pv 6) pa_nil))))) pa_nil)))))))))
      (pss_one (ps_ret (pv 2))))))), ?body⟩
  case len => intro ss R RE hc; (first | (obtain ⟨_, rfl, _⟩ := hc; rfl) | (obtain ⟨_, _, rfl, _⟩ := hc; rfl) | (obtain ⟨_, _, _, rfl, _⟩ := hc; rfl) | (obtain ⟨_, _, _, _, rfl, _⟩ := hc; rfl) | (obtain ⟨_, _, _, _, _, rfl, _⟩ := hc; rfl) | (obtain ⟨_, _, _, _, _, _, rfl, _⟩ := hc; rfl) | (obtain ⟨_, _, _, _, _, _, _, rfl, _⟩ := hc; rfl) | (obtain ⟨_, _, _, _, _, _, _, _, rfl, _⟩ := hc; rfl) | (obtain ⟨_, _, _, _, _, _, _, _, _, rfl, _⟩ := hc; rfl) | (obtain ⟨_, _, _, _, _, _, _, _, _, _, rfl, _⟩ := hc; rfl) | (obtain ⟨_, _, _, _, _, _, _, _, _, _, _, rfl, _⟩ := hc; rfl))
  case body =>
    rintro W ss R RE hM hJ ⟨M, rfl, hM1, hM6, hR⟩
    have hpr : ∀ n : Nat, ∀ d ∈ nD (List.range n), pl 1 d = true := fun n d hd => by
      obtain ⟨k, _, rfl⟩ := List.mem_map.mp hd
      rfl
    refine sd_seq (sd_own (evf_op ?_))
    refine evp_new (evf_lstD ?_)
    repeat (wtm_at "d")
    refine ⟨_, rfl, by decide, ?_⟩
    repeat (wtm_at "d")
    refine ⟨_, rfl, by decide, ?_⟩
    refine evp_new (evf_map (wip_seq ?_))
    refine evp_callL0 hM hJ ?_
    repeat (wtm_at "d")
    refine evp_new (evf_listRg1 ?_)
    repeat (wtm_at "d")
    refine ⟨M, rfl, by omega, ?_⟩
    repeat (wtm_at "d")
    refine ⟨rfl, _, _, rfl, .lst _, by rw [nD_len, List.length_range]; omega, hpr M, fun es hes hmem => ?_⟩
    obtain ⟨vs, rfl, hvs⟩ := dd_nats hmem
    rw [nD_len, nD_len, List.length_range] at hes
    refine ⟨_, .lst _, by rw [nD_len]; omega, fun j => (Pl.v (vs.getD j 0)).dd, fun j hj => ?_, ?_⟩
    · rw [nD_len] at hj
      rw [show itemsOf (nD vs) j = .int ((vs.getD j 0 : Nat) : Int) from items_mapg (get_getD hj)]
      refine gap_name (by decide) ?_
      repeat (wtm_at "d")
      exact ⟨_, rfl, by show 2 ≤ 100000; decide, rfl⟩
    rw [nD_len, range_getD (f := fun n => (Pl.v n).dd)]
    refine opf_cat (.lst _) (.lst _) (by rw [List.length_map]; show 1 + vs.length ≤ _; omega) ?_
    have e0 : [DD.tup [.str ("version" : Str), .int 0]] ++ vs.map (fun n => (Pl.v n).dd) = (eBase vs).map Pl.dd := by
      rw [eBase_map, List.map_map]; rfl
    rw [e0]
    refine sd_seq (sd_own (evf_from ?_))
    refine evp_var (s := .seq .own ((eBase vs).map Pl.dd)) rfl (fun h => nomatch h) ?_
    refine ⟨_, .seq _ _, evo_part ?_⟩
    refine evp_callL0 hM hJ ?_
    repeat (wtm_at "d")
    refine ⟨rfl, _, rfl, by decide, by decide, fun r h0 h1 => ?_⟩
    obtain ⟨k, rfl⟩ : ∃ k : Nat, r = (k : Int) := ⟨r.toNat, by omega⟩
    refine ⟨_, rfl, k, rfl, ?_⟩
    obtain ⟨pl0, ep, hp0, hl0, hl1⟩ : ∃ pl0 : List Pl, ((eBase vs).map Pl.dd).drop k = List.map Pl.dd pl0 ∧ PlanOk M pl0 ∧ 1 ≤ pl0.length ∧ pl0.length ≤ 7 := by
      refine ⟨((0 :: vs).drop k).map .v, by rw [eBase_map, ← List.map_drop, ← List.map_drop], planOk_vs fun x hx => ?_, ?_, ?_⟩
      · rcases List.mem_cons.mp (List.mem_of_mem_drop hx) with rfl | z
        · omega
        · exact hvs x z
      · rw [List.length_map, List.length_drop]; simp; omega
      · rw [List.length_map, List.length_drop]; simp; omega
    rw [ep]
    repeat (wtm_at "e")
    refine evp_callL0 hM hJ ?_
    repeat (wtm_at "d")
    refine ⟨rfl, _, rfl, by decide, by decide, fun r _ _ => ?_⟩
    repeat (wtm_at "d")
    refine opp_eq (n := 0) (by decide) (nn _) (nn _) rfl rfl fun loose _ => ?_
    repeat (wtm_at "d")
    refine sd_for (vs := [4]) (wfp_rng1 ?_)
    repeat (wtm_at "d")
    refine evp_callL0 hM hJ ?_
    repeat (wtm_at "d")
    refine ⟨rfl, _, rfl, by decide, by decide, fun t ht0 ht1 => ?_⟩
    repeat (wtm_at "d")
    refine ⟨_, rfl, by omega, by omega, fun j ρ => ∃ u4 u5 u6 u7 u8 u9 pl, ρ = [.dat (.any (.ref i.1)), .dat (.int (M : Int)), .seq .own (List.map Pl.dd pl), .dat (.bl loose), u4, u5, u6, u7, u8, u9] ∧ PlanOk M pl ∧ 1 ≤ pl.length ∧ pl.length ≤ 7 + j, ⟨_, _, _, _, _, _, pl0, rfl, hp0, hl0, by omega⟩, fun j ρ hj hI => ?_, fun ρ hI => ?_⟩
    · obtain ⟨u4, u5, u6, u7, u8, u9, pl, rfl, hok, h1, hlen⟩ := hI
      have hj5 : j < 5 := by omega
      have hml : (List.map Pl.dd pl).length = pl.length := by simp
      refine gap_name (by decide) ?_
      refine sd_seq (sd_asgT (vs := [5, 6]) ?_)
      repeat (wtm_at "d")
      refine evp_callL0 hM hJ ?_
      repeat (wtm_at "d")
      refine evp_var (s := .seq .own (List.map Pl.dd pl)) rfl (fun h => nomatch h) ?_
      repeat (wtm_at "d")
      refine cap_len (.seq _ _) ?_
      rw [hml]
      repeat (wtm_at "d")
      refine ⟨rfl, _, rfl, by omega, by omega, fun r a0 a1 => ?_⟩
      obtain ⟨mine, rfl⟩ : ∃ k : Nat, r = (k : Int) := ⟨r.toNat, by omega⟩
      repeat (wtm_at "d")
      refine evp_callL0 hM hJ ?_
      repeat (wtm_at "d")
      refine evp_var (s := .seq .own (List.map Pl.dd pl)) rfl (fun h => nomatch h) ?_
      repeat (wtm_at "d")
      refine cap_len (.seq _ _) ?_
      rw [hml]
      repeat (wtm_at "d")
      refine ⟨rfl, _, rfl, by omega, by omega, fun r b0 b1 => ?_⟩
      obtain ⟨yours, rfl⟩ : ∃ k : Nat, r = (k : Int) := ⟨r.toNat, by omega⟩
      repeat (wtm_at "d")
      refine ⟨_, rfl, by show 2 ≤ 100000; decide, gap_tup rfl (gas_cons (gap_name (by decide) (gas_cons (gap_name (by decide) (gas_nil ?_)))))⟩
      have hrows : ∀ r ∈ rowsOf pl, r.length ≤ 1000 ∧ ∀ x ∈ r, x < pl.length := fun r hr => by
        obtain ⟨h1, h2⟩ := lRows_ok r hr
        have := nodup_len h1 h2
        exact ⟨by omega, h2⟩
      have hrl : (rowsOf pl).length = pl.length := lRows_len
      repeat (wtm_at "e")
      refine evp_var (s := .seq .own (List.map Pl.dd pl)) rfl (fun h => nomatch h) ?_
      repeat (wtm_at "d")
      refine ⟨rfl, _, pl, rfl, .seq _, hok.1, by omega, ?_⟩
      repeat (wtm_at "e")
      refine evp_new (evf_lcm (WfP.wip (wfp_rng1 ?_)))
      repeat (wtm_at "d")
      refine evp_var (s := .seq .own (List.map Pl.dd pl)) rfl (fun h => nomatch h) ?_
      repeat (wtm_at "d")
      refine cap_len (.seq _ _) ?_
      rw [hml]
      repeat (wtm_at "d")
      refine ⟨_, rfl, by omega, by omega, by omega, fun k => kinB pl (rowsOf pl) k mine && kinB pl (rowsOf pl) k yours, fun k => .int (k : Int), fun k hk => gap_name (by decide) ?_, ?_⟩
      · have hk : k < pl.length := by omega
        repeat (wtm_at "d")
        refine evp_var (s := .seq .own (List.map Pl.dd pl)) rfl (fun h => nomatch h) ?_
        repeat (wtm_at "d")
        refine ⟨rfl, _, pl, rowsOf pl, k, mine, rfl, .seq _, hk, by omega, hrows, ?_⟩
        repeat (wtm_at "d")
        refine ⟨fun e1 => ?_, fun e1 => ?_⟩
        · repeat (wtm_at "d")
          refine evp_var (s := .seq .own (List.map Pl.dd pl)) rfl (fun h => nomatch h) ?_
          repeat (wtm_at "d")
          refine ⟨rfl, _, pl, rowsOf pl, k, yours, rfl, .seq _, hk, by omega, hrows, ?_⟩
          repeat (wtm_at "d")
          refine ⟨by dsimp only; rw [e1]; rfl, fun _ => ?_⟩
          repeat (wtm_at "d")
          rfl
        · refine ⟨by dsimp only; rw [e1]; rfl, fun h => ?_⟩
          dsimp only at h
          rw [e1] at h; cases h
      rw [show ((pl.length : Nat) : Int).toNat = pl.length from Int.toNat_natCast _]
      obtain ⟨bs, ebs, hbs⟩ : ∃ bs : List Nat, ((List.range pl.length).filter fun k => kinB pl (rowsOf pl) k mine && kinB pl (rowsOf pl) k yours).map (fun k : Nat => DD.int (k : Int)) = nD bs ∧ ∀ x ∈ bs, x < pl.length :=
        ⟨_, rfl, fun x hx => List.mem_range.mp (List.mem_filter.mp hx).1⟩
      have hbl : bs.length ≤ 20 := by
        have := congrArg List.length ebs
        rw [nD_len, List.length_map] at this
        have h2 := List.length_filter_le (fun k => kinB pl (rowsOf pl) k mine && kinB pl (rowsOf pl) k yours) (List.range pl.length)
        rw [List.length_range] at h2
        omega
      rw [ebs]
      repeat (wtm_at "d")
      refine ⟨fun hl => ?_, fun hl => ?_⟩
      · repeat (wtm_at "d")
        refine evp_callL0 hM hJ ?_
        repeat (wtm_at "d")
        refine ⟨rfl, _, rfl, by decide, by decide, fun r _ _ => ?_⟩
        repeat (wtm_at "d")
        refine opp_eq (n := 0) (by decide) (nn _) (nn _) rfl rfl fun q _ => ?_
        refine ⟨_, rfl, fun hq => ?_, fun hq => ?_⟩
        · subst hq
          refine ⟨fun _ => ?_, fun h => Bool.noConfusion h⟩
          repeat (wtm_at "e")
          refine evp_new (evf_listRg1 ?_)
          repeat (wtm_at "d")
          refine evp_var (s := .seq .own (List.map Pl.dd pl)) rfl (fun h => nomatch h) ?_
          repeat (wtm_at "d")
          refine cap_len (.seq _ _) ?_
          rw [hml]
          repeat (wtm_at "d")
          refine ⟨pl.length, rfl, by omega, ?_⟩
          repeat (wtm_at "d")
          refine plan_tail hM hJ (by omega) (by rw [List.length_range]; omega) (by rw [List.length_range]; omega) fun b hb => ?_
          have hb := List.mem_range.mp hb
          exact ⟨_, _, _, _, _, _, _, rfl, planOk_snoc hok hb (by omega) (by omega), by rw [List.length_append]; omega, by rw [List.length_append]; show pl.length + 1 ≤ _; omega⟩
        · subst hq
          repeat (wtm_at "d")
          refine evp_new (evf_lstD ?_)
          repeat (wtm_at "d")
          refine ⟨_, rfl, by decide, ?_⟩
          refine opp_eq (n := 1) (by decide) (nn _) (nn _) (pl_nD bs) rfl fun z hz => ?_
          refine ⟨_, rfl, fun hz1 => ?_, fun hz1 => ?_⟩
          · subst hz1
            repeat (wtm_at "e")
            refine evp_new (evf_listRg1 ?_)
            repeat (wtm_at "d")
            refine evp_var (s := .seq .own (List.map Pl.dd pl)) rfl (fun h => nomatch h) ?_
            repeat (wtm_at "d")
            refine cap_len (.seq _ _) ?_
            rw [hml]
            repeat (wtm_at "d")
            refine ⟨pl.length, rfl, by omega, ?_⟩
            repeat (wtm_at "d")
            refine plan_tail hM hJ (by omega) (by rw [List.length_range]; omega) (by rw [List.length_range]; omega) fun b hb => ?_
            have hb := List.mem_range.mp hb
            exact ⟨_, _, _, _, _, _, _, rfl, planOk_snoc hok hb (by omega) (by omega), by rw [List.length_append]; omega, by rw [List.length_append]; show pl.length + 1 ≤ _; omega⟩
          · have hne : bs ≠ [] := fun e => by
              have : z = true := hz.mpr (by rw [e]; rfl)
              rw [this] at hz1; cases hz1
            repeat (wtm_at "d")
            refine plan_tail hM hJ (by omega) (List.length_pos_iff.mpr hne) (by omega) fun b hb => ?_
            have hb := hbs b hb
            exact ⟨_, _, _, _, _, _, _, rfl, planOk_snoc hok hb (by omega) (by omega), by rw [List.length_append]; omega, by rw [List.length_append]; show pl.length + 1 ≤ _; omega⟩
      · refine ⟨fun h => Bool.noConfusion h, fun _ => ?_⟩
        repeat (wtm_at "d")
        refine evp_new (evf_lstD ?_)
        repeat (wtm_at "d")
        refine ⟨_, rfl, by decide, ?_⟩
        refine opp_eq (n := 1) (by decide) (nn _) (nn _) (pl_nD bs) rfl fun z hz => ?_
        refine ⟨_, rfl, fun hz1 => ?_, fun hz1 => ?_⟩
        · subst hz1
          repeat (wtm_at "e")
          refine evp_new (evf_listRg1 ?_)
          repeat (wtm_at "d")
          refine evp_var (s := .seq .own (List.map Pl.dd pl)) rfl (fun h => nomatch h) ?_
          repeat (wtm_at "d")
          refine cap_len (.seq _ _) ?_
          rw [hml]
          repeat (wtm_at "d")
          refine ⟨pl.length, rfl, by omega, ?_⟩
          repeat (wtm_at "d")
          refine plan_tail hM hJ (by omega) (by rw [List.length_range]; omega) (by rw [List.length_range]; omega) fun b hb => ?_
          have hb := List.mem_range.mp hb
          exact ⟨_, _, _, _, _, _, _, rfl, planOk_snoc hok hb (by omega) (by omega), by rw [List.length_append]; omega, by rw [List.length_append]; show pl.length + 1 ≤ _; omega⟩
        · have hne : bs ≠ [] := fun e => by
            have : z = true := hz.mpr (by rw [e]; rfl)
            rw [this] at hz1; cases hz1
          repeat (wtm_at "d")
          refine plan_tail hM hJ (by omega) (List.length_pos_iff.mpr hne) (by omega) fun b hb => ?_
          have hb := hbs b hb
          exact ⟨_, _, _, _, _, _, _, rfl, planOk_snoc hok hb (by omega) (by omega), by rw [List.length_append]; omega, by rw [List.length_append]; show pl.length + 1 ≤ _; omega⟩
    · obtain ⟨u4, u5, u6, u7, u8, u9, pl, rfl, hok, h1, hlen⟩ := hI
      show SD W _ _ _
      exact sd_retOwn (m := .own) rfl (hR pl hok h1 (by omega))
end Dl

set_option Elab.async false
set_option linter.all false
set_option maxRecDepth 100000
set_option maxHeartbeats 1000000
namespace Dl
open PySem PySem.Spec PyProof.Rows L2
local macro_rules | `(tactic| wtm_at "d") => `(tactic| first
  | with_reducible refine sd_seq ?_ | with_reducible refine sd_if ?_ | with_reducible refine sd_ret ?_
  | with_reducible refine evp_op ?_ | with_reducible refine evp_un ?_ | with_reducible refine evp_cb ?_ | with_reducible refine evp_tupD ?_
  | with_reducible refine evp_andV ?_ | with_reducible refine evp_orV ?_ | with_reducible refine evp_notV ?_ | with_reducible refine evp_if ?_
  | with_reducible refine evt_test ?_ | with_reducible refine evt_B ?_ | with_reducible refine evt_and ?_ | with_reducible refine evt_or ?_ | with_reducible refine evt_not ?_
  | with_reducible refine eva_cons ?_ | with_reducible refine eva_nil ?_
  | with_reducible refine evp_int ?_ | with_reducible refine evp_str ?_ | with_reducible refine evp_bl ?_ | with_reducible refine evp_non ?_ | with_reducible refine evp_any ?_
  | (with_reducible refine evp_isv ?_; refine evp_dat rfl ?_)
  | with_reducible refine evp_callP ?_ | with_reducible refine evp_chain ?_
  | with_reducible refine sd_next ?_
  | with_reducible refine opp_add ?_ | with_reducible refine opp_sub ?_ | with_reducible refine opp_lt ?_ | with_reducible refine opp_le ?_ | with_reducible refine opp_gt ?_ | with_reducible refine opp_ge ?_
  | with_reducible refine opp_isN ?_ | with_reducible refine opp_notN ?_ | with_reducible refine unp_neg ?_
  | with_reducible refine ex_bl ?_ | with_reducible refine ex_dat ?_ | with_reducible refine ex_int ?_)
local macro_rules | `(tactic| wtm_at "e") => `(tactic| first | wtm_at "d" | with_reducible refine sd_set ?_)
variable {P : Program} {w : World} {K : PySem.W.Frag} {mg : Str → Option Value} {base : Heap} {A : Ads}
/-! _law_dealt -/
theorem sd_run {W : Wd} {t : TS} {ρ : List Slot} {E : DE} {σ : L2.St} {G H : Hp} {D : Ends} (h : SD W t ρ E) (S : St W G H σ ρ) (F : Fits W G E D) : t D σ H := h σ G H S D F
theorem cut_to {xs : List V} {k : Nat} : cutV xs none (some (k : Int)) = xs.take k := by
  unfold cutV
  rw [HT.sIx_nat, HT.sIx_none, List.drop_zero, Nat.sub_zero]
  by_cases h : k ≤ xs.length
  · rw [Nat.min_eq_left h]
  · rw [Nat.min_eq_right (by omega), List.take_of_length_le (Nat.le_refl _), List.take_of_length_le (by omega)]
theorem SqL.keep {K : PySem.W.Frag} {H H' : Hp} {a : Addr} {xs : List V} (h : SqL K H a xs) (k : ∀ o, H a = some o → H' a = some o) : SqL K H' a xs := by
  rcases h with (h | ⟨ob, h⟩) | h
  · exact .inl (.inl (k _ h))
  · exact .inl (.inr ⟨ob, k _ h⟩)
  · exact .inr h
theorem evp_script {W : Wd} {ρ : List Slot} {K : PySem.W.Frag} {P : Slot → Prop} {a : Addr} {ns : List Int} (hM : W.M = NoM) (hs : SqL K W.H0 a (ns.map V.int)) (h0 : ρ[0]? = some (.dat (.any (.ref a)))) (k : P (.dat (.lst ((ns.take 50).map .int)))) :
    EvP W (tSl (rSlU K) (tVar 0) tNoPart (tPart (tC (.int 50)))) ρ P := fun σ G H S Q q => by
  obtain ⟨x, h1, v⟩ := S.sl 0 _ h0 (fun z => nomatch z)
  cases v
  have hs2 : SqL K H a (ns.map V.int) := SqL.keep hs fun o e => S.cur.keep a o (by rw [hM]; exact fun z => z) e
  refine ⟨_, h1, 50, rfl, .inl ⟨a, _, rfl, hs2, fun b hb => ?_⟩⟩
  rw [show (some (50 : Int)) = some (((50 : Nat) : Nat) : Int) from rfl, cut_to, ← List.map_take]
  have f := W.new (o := .lst ((ns.take 50).map V.int)) S.cur hb
  exact q _ _ _ _ f (vd (Rp.lst upd_same (RpAll.of_ints _))) k
def spDealt (K : PySem.W.Frag) : Sp := fun vs H Q _ => ∃ (a : Addr) (ns : List Int), vs = [.ref a] ∧ SqL K H a (ns.map V.int) ∧ ∀ (i : Addr × Addr) (cs : List Int) (bl : Int) (H2 : Hp), Same H H2 → H i.1 = none → H i.2 = none → CS i cs bl H2 → Q (.ref i.1) H2
theorem ok__law_dealt (T : Txt K mg A) (n_abs : mg "abs" = none) : FD P w K mg base CX0 1 A._law_dealt ["_law_script"] (spDealt K) := by
  obtain ⟨fd, F⟩ := T.F__law_dealt
  refine ⟨F.kp, fd, ?_, F.binds fun _ _ _ _ _ _ us hl => match us, hl with | [_], _ => rfl⟩
  refine F.ok sc__law_dealt (fun vs H Q E h => by obtain ⟨a, ns, rfl, _⟩ := h; rfl) fun cdv B outer s H vs Q E hr h => ⟨_,
    (pss_cons (ps_setLc (i := 2) (own := [("_law_cell", 1)]) (g := (gName 1)) (by rfl) sc__law_dealt.nd rfl rfl (sw_true rfl rfl rfl (by decide +kernel)) (pi_seqK (K := K) rfl (pe_slice (r := rSlU K) sl_U (pv 0) po_none (po_some pe_int))) (blkOk_by (own := [("_law_cell", 1)]) (N := N__law_dealt) (sc := defScope s__law_dealt) (by decide +kernel)) (fun _ _ _ _ _ => (pg_name (i := 1) sc__law_dealt.nd rfl (Or.inl rfl))) (fun _ _ _ _ _ => pts_nil) (fun _ _ _ _ _ => (pe_callB (r := cAbs) call_cAbs (by rfl) n_abs (by decide +kernel) (pa_cons (pe_callTy (T := "int") (r := cInt) call_cInt (by rfl) T.n_int (by decide +kernel) (pa_cons (pv 1) pa_nil)) pa_nil))))
      (pss_cons (ps_set (i := 3) sc__law_dealt.nd rfl (Or.inl rfl) pe_int)
      (pss_cons (ps_for PassesOwn.never rfl (pi_seqK (K := K) rfl (pv 2)) (pg_name (i := 1) sc__law_dealt.nd rfl (Or.inl rfl))
      (pss_one (ps_set (i := 3) sc__law_dealt.nd rfl (Or.inl rfl) (pe_op op_modI (pe_callTy (T := "int") (r := cInt) call_cInt (by rfl) T.n_int (by decide +kernel) (pa_cons (pe_op op_addU (pe_op op_addU (pe_op op_mulI (pv 3) pe_int) (pe_op op_modI (pv 1) pe_int)) pe_int) pa_nil)) pe_int))))
      (pss_one (ps_ret (pe_lst (pa_cons (pe_lc (own := [("_law_cell", 1)]) (g := (gName 1)) (by rfl) sc__law_dealt.nd (pi_seqK (K := K) rfl (pv 2)) (blkOk_by (own := [("_law_cell", 1)]) (N := N__law_dealt) (sc := defScope s__law_dealt) (by decide +kernel)) (fun _ _ _ _ _ => (pg_name (i := 1) sc__law_dealt.nd rfl (Or.inl rfl))) (fun _ _ _ _ _ => (pts_one (pt_cmpR op_geI (pv 1) (pe_op op_powI pe_int pe_int) (nomark _)))) (fun _ _ _ _ _ => (pv 1))) (pa_cons (pv 3) pa_nil))))))))
    , ?body⟩
  case body =>
    obtain ⟨a, ns, rfl, hsq, q⟩ := h
    have g : Same g0 H := fun a u e => by cases e
    refine sd_run (W := ⟨NoM, AnyJ, g0, H, no_mut, no_mut2, fun _ z => z.elim, g, trivial⟩) (G := g0) (ρ := startS N__law_dealt [.dat (.any (.ref a))]) (E := { nx := fun _ => False, rt := fun d => ∃ (cs : List Int) (bl : Int), d = .lst [.lst (cs.map .int), .int bl] ∧ cs.length ≤ 60 })
      ?_ (st_start (W := ⟨NoM, AnyJ, g0, H, no_mut, no_mut2, fun _ z => z.elim, g, trivial⟩) (by show 1 ≤ 4; decide) (.cons (Rp.any _) .nil)) ⟨fun _ _ _ _ _ _ z => z.elim, fun x G2 H2 d c2 rx hd => ?_, fun _ _ _ _ _ _ z => z.elim, fun _ _ _ _ _ _ z => z.elim⟩
    · generalize hW : (⟨NoM, AnyJ, g0, H, no_mut, no_mut2, fun _ z => z.elim, g, trivial⟩ : Wd) = W
      have hM : W.M = NoM := by rw [← hW]
      have hs : SqL K W.H0 a (ns.map V.int) := by rw [← hW]; exact hsq
      have hl50 : (ns.take 50).length ≤ 50 := by rw [List.length_take]; omega
      generalize hts : ns.take 50 = ts at hl50
      have gi : ∀ {l : List Int} {j : Nat}, j < (l.map DD.int).length → itemsOf (l.map DD.int) j = .int (l.getD j 0) := fun {l j} hj => by
        have hj : j < l.length := by simpa using hj
        exact items_mapg (by rw [List.getD_eq_getElem?_getD, List.getElem?_eq_getElem hj]; rfl)
      repeat (wtm_at "e")
      refine evp_new (evf_map (wip_seq ?_))
      refine evp_script hM hs rfl ?_
      rw [hts]
      refine ⟨_, .lst _, by rw [List.length_map]; omega, fun j => .int (if ts.getD j 0 < 0 then -(ts.getD j 0) else ts.getD j 0), fun j hj => ?_, ?_⟩
      · rw [gi hj]
        refine gap_name (by decide) ?_
        repeat (wtm_at "d")
        refine cap_int ?_
        repeat (wtm_at "d")
        exact cap_abs rfl
      obtain ⟨xs, ex, hxl⟩ : ∃ xs : List Int, ((List.range (ts.map DD.int).length).map fun j => DD.int (if ts.getD j 0 < 0 then -(ts.getD j 0) else ts.getD j 0)) = xs.map .int ∧ xs.length ≤ 50 :=
        ⟨(List.range (ts.map DD.int).length).map fun j => if ts.getD j 0 < 0 then -(ts.getD j 0) else ts.getD j 0, by rw [List.map_map]; rfl, by rw [List.length_map, List.length_range, List.length_map]; omega⟩
      rw [ex]
      repeat (wtm_at "e")
      refine sd_for (vs := [1]) (wfp_seq ?_)
      repeat (wtm_at "d")
      refine ⟨_, .lst _, fun j ρ => ∃ u1 bl, ρ = [.dat (.any (.ref a)), u1, .dat (.lst (xs.map .int)), .dat (.int bl)], ⟨_, _, rfl⟩, fun j ρ hj hI => ?_, fun ρ hI => ?_⟩
      · obtain ⟨u1, bl, rfl⟩ := hI
        rw [gi hj]
        refine gap_name (by decide) ?_
        repeat (wtm_at "e")
        refine opp_mul (.inr ⟨by decide, by decide⟩) ?_
        repeat (wtm_at "d")
        refine opp_mod (by decide) ?_
        repeat (wtm_at "d")
        refine cap_int ?_
        repeat (wtm_at "d")
        refine opp_mod (by decide) ?_
        repeat (wtm_at "d")
        exact ⟨_, _, rfl⟩
      · obtain ⟨u1, bl, rfl⟩ := hI
        show SD W _ _ _
        repeat (wtm_at "d")
        refine evp_new (evf_lstD ?_)
        repeat (wtm_at "d")
        refine evp_new (evf_lcm (wip_seq ?_))
        repeat (wtm_at "d")
        refine ⟨_, .lst _, by rw [List.length_map]; omega, fun j => decide ((10 : Int) ^ (18 : Int).toNat ≤ xs.getD j 0), fun j => .int (xs.getD j 0), fun j hj => ?_, ?_⟩
        · rw [gi hj]
          refine gap_name (by decide) ?_
          repeat (wtm_at "d")
          refine opp_pow ⟨by decide, by decide, by decide⟩ ?_
          repeat (wtm_at "d")
          refine ⟨rfl, fun _ => ?_⟩
          repeat (wtm_at "d")
          rfl
        · repeat (wtm_at "d")
          refine ⟨_, rfl, by show 2 ≤ 100000; decide, _, rfl, ((List.range (xs.map DD.int).length).filter fun j => decide ((10 : Int) ^ (18 : Int).toNat ≤ xs.getD j 0)).map fun j => xs.getD j 0, bl, by rw [List.map_map]; rfl, ?_⟩
          have := List.length_filter_le (fun j => decide ((10 : Int) ^ (18 : Int).toNat ≤ xs.getD j 0)) (List.range (xs.map DD.int).length)
          rw [List.length_range, List.length_map] at this
          rw [List.length_map, List.length_map]
          omega
    · obtain ⟨cs, bl, rfl, hl⟩ := hd
      cases rx with
      | @lst p xs _ hp rp =>
      have l := rp.length
      match xs, l with
      | [v0, v1], _ =>
      cases rp with
      | cons r0 r1 =>
      cases r1 with
      | cons r1 _ =>
      cases r1
      cases r0 with
      | @lst b ys _ hb rb =>
      have eb := rb.ints
      subst eb
      have fresh : ∀ {x : Addr} {o : HO}, G2 x = some o → H x = none := fun {x o} e => by
        cases z : H x with
        | none => rfl
        | some u =>
          have := c2.dom x (by show H x ≠ none; rw [z]; exact fun z => nomatch z) rfl
          rw [this] at e; cases e
      have hpH := c2.gh _ _ hp
      have hbH := c2.gh _ _ hb
      refine q (p, b) cs bl H2 (fun x o e => c2.keep x o (fun z => z) e) (fresh hp) (fresh hb) ⟨fun e => ?_, hpH, hbH, hl⟩
      have e : p = b := e
      subst e
      rw [hpH] at hbH
      have := HO.lst.inj (Option.some.inj hbH)
      cases cs with
      | nil => cases this
      | cons c cs => cases this
end Dl

set_option Elab.async false
set_option linter.all false
set_option maxRecDepth 100000
set_option maxHeartbeats 4000000
/-! R5: tuple * 0, tuple * 1. -/
namespace Dl
open PySem PySem.Spec PyProof.Rows L2
theorem tuple_mul0 (l : Addr) (items : Array Value) (n : Nat) (dd : Option Addr) (sl : Array (Option Value)) (x : Int) (u : Tok) (c0 : (decide (x < -(2 ^ 63)) || decide (x ≥ 2 ^ 63)) = false) (c1 : (items.isEmpty || x == 1) = false) (c2 : (decide (x ≤ 0) || items.isEmpty) = true) :
    Meets (Builtin.«tuple.__mul__» ⟨[.ref l, .int x u], []⟩) (fun _ R s => s.heap.get? l = some { cls := .type "tuple", dict := dd, data := .seq items n, slots := sl } ∧
      R (.ok (.ret (Value.ref s.heap.objs.size))) { s with heap := s.heap.push { cls := Value.type "tuple", data := Data.seq #[] }, toks := s.toks }) :=
  .of_wp fun prog w A R s h => by
    obtain ⟨hp, g, d, tk, os⟩ := s
    obtain ⟨hl, h⟩ := h
    have f1 := AutoSeq1.idx_int
    wp_walk using wpAny_loadPart' hl
    repeat (first
      | (refine wpAny_ite_false (decide_eq_false (by rw [c0]; exact Bool.false_ne_true)) ?_; wp_walk using wpAny_loadPart' hl)
      | (refine wpAny_ite_false (decide_eq_false (by rw [c1]; exact Bool.false_ne_true)) ?_; wp_walk using wpAny_loadPart' hl)
      | (refine wpAny_ite_true (decide_eq_true c2) ?_; wp_walk using wpAny_loadPart' hl))
    exact ⟨_, rfl, h⟩
theorem tuple_mul1 (l : Addr) (items : Array Value) (n : Nat) (dd : Option Addr) (sl : Array (Option Value)) (x : Int) (u : Tok) (c0 : (decide (x < -(2 ^ 63)) || decide (x ≥ 2 ^ 63)) = false) (c1 : (items.isEmpty || x == 1) = true) :
    Meets (Builtin.«tuple.__mul__» ⟨[.ref l, .int x u], []⟩) (fun _ R s => s.heap.get? l = some { cls := .type "tuple", dict := dd, data := .seq items n, slots := sl } ∧
      R (.ok (.ret (Value.ref l))) s) :=
  .of_wp fun prog w A R s h => by
    obtain ⟨hp, g, d, tk, os⟩ := s
    obtain ⟨hl, h⟩ := h
    have f1 := AutoSeq1.idx_int
    wp_walk using wpAny_loadPart' hl
    repeat (first
      | (refine wpAny_ite_false (decide_eq_false (by rw [c0]; exact Bool.false_ne_true)) ?_; wp_walk using wpAny_loadPart' hl)
      | (refine wpAny_ite_true (decide_eq_true c1) ?_; wp_walk using wpAny_loadPart' hl))
    all_goals exact ⟨_, rfl, h⟩
/-- xs * k, xs a tuple that is not empty, any k from nought on -/
def rRepU (K : PySem.W.Frag) : R2 := fun x y H Q => ∃ l k xs, x = .ref l ∧ y = .int k ∧ SqT K H l xs ∧ xs ≠ [] ∧ 0 ≤ k ∧ k ≤ 1000 ∧ xs.length ≤ 1000 ∧ (k = 1 → Q (.ref l) H) ∧ (k ≠ 1 → ∀ p, H p = none → Q (.ref p) (upd H p (.tup (List.replicate k.toNat xs).flatten)))
section
variable {X : Cx}
theorem op_repU : OpR X (binaryOp .Mult) (rRepU X.K) := by
  intro pins s σ H x y v u Q I rx ry h
  obtain ⟨l, k, xs, rfl, rfl, hT, hne, h1, h2, hz, q1, q2⟩ := h
  by_cases k2 : 2 ≤ k
  · exact op_repT pins s σ H _ _ v u Q I rx ry ⟨l, k, xs, rfl, rfl, hT, hne, k2, h2, hz, q2 (by omega)⟩
  cases rx
  obtain ⟨t, rfl⟩ := ry
  obtain ⟨its, r, ⟨⟨cls, dd, data, sl⟩, ho, hc, n, hd⟩, hs⟩ := I.tuple hT
  simp only at hc hd
  subst hc hd
  have hle : its.length = xs.length := r.length.symm
  have hn : its ≠ [] := fun e => hne (by
    rw [e] at hle
    exact List.eq_nil_of_length_eq_zero hle.symm)
  have hi : its.toArray.isEmpty = false := by
    cases its with
    | nil => exact absurd rfl hn
    | cons a b => rfl
  have c0 : (decide (k < -(2 ^ 63)) || decide (k ≥ 2 ^ 63)) = false := by
    rw [decide_eq_false (by omega), decide_eq_false (by omega)] <;> rfl
  by_cases e1 : k = 1
  · have c1 : (its.toArray.isEmpty || k == 1) = true := by
      rw [hi, Bool.false_or, e1]; rfl
    refine wpAny_binaryOp_repeat_ref (T := "tuple") (U := "int") (by decide) ⟨_, ho, rfl⟩ (fun s' => typeIs_int s' k t) noFill_tuple_mul F.fills_int_mul F.slot_int_rmul repeat_tuple F.slot_int_index.lookup
      (call_meets F.slot_int_rmul (typeIs_int s k t) F.entry_int_rmul (F.args_int_rmul_2 _ _) (int_rmul_tuple k t l its.toArray n dd sl)
        ⟨ho, rfl, ⟨_, ho, rfl⟩, call_meets F.slot_tuple_mul ⟨_, ho, rfl⟩ F.entry_tuple_mul (F.args_tuple_mul_2 _ _) (tuple_mul1 l its.toArray n dd sl k t c0 c1) ⟨ho, ?_⟩⟩)
    exact ⟨.ref l, _, I, rfl, q1 e1⟩
  · have e0 : k = 0 := by omega
    subst e0
    have c1 : (its.toArray.isEmpty || (0 : Int) == 1) = false := by
      rw [hi, Bool.false_or]; rfl
    refine wpAny_binaryOp_repeat_ref (T := "tuple") (U := "int") (by decide) ⟨_, ho, rfl⟩ (fun s' => typeIs_int s' 0 t) noFill_tuple_mul F.fills_int_mul F.slot_int_rmul repeat_tuple F.slot_int_index.lookup
      (call_meets F.slot_int_rmul (typeIs_int s 0 t) F.entry_int_rmul (F.args_int_rmul_2 _ _) (int_rmul_tuple 0 t l its.toArray n dd sl)
        ⟨ho, rfl, ⟨_, ho, rfl⟩, call_meets F.slot_tuple_mul ⟨_, ho, rfl⟩ F.entry_tuple_mul (F.args_tuple_mul_2 _ _) (tuple_mul0 l its.toArray n dd sl 0 t c0 c1 rfl) ⟨ho, ?_⟩⟩)
    refine ⟨.ref s.heap.objs.size, _, I.laid (t' := s.toks) (o := .tup []) (fun b ob q => Heap.get?_push_of_some _ q) (Nat.le_refl _) ?_, rfl, q2 (by decide) _ (I.hok.fresh (Nat.le_refl _))⟩
    exact ⟨Nat.zero_le _, [], .nil, IsTup.new _ _⟩
end
end Dl

set_option Elab.async false
set_option linter.all false
set_option maxRecDepth 100000
set_option maxHeartbeats 2000000
/-! G1: defs that know that no repr is under way. -/
namespace Dl
open PySem PySem.Spec PyProof.Rows L2 LamX
structure FnOkG (P : Program) (w : World) (K : PySem.W.Frag) (mg : Str → Option Value) (base : Heap) (CX : CXT) (k : Nat) (f : Addr) (fd : FuncData) (ps : List Str) (sp : Sp) : Prop where
  len : ∀ vs H Q E, sp vs H Q E → vs.length = ps.length
  run : ∀ (A : Around), A.guards = some [] → ∀ (outer : List Env) (s : Shared) (H : Hp) (args : Args) (us : List Value) (vs : List V) (Q : VK) (E : XK), Room k A → Env0 P w K mg base A outer s H → BindsTo s fd args (ps.zip us) → Vals vs us → sp vs H Q E →
    codeAny (model P w) A (.call (.ref f) args) (CR CX outer P w H s Q E) s
section
variable {P : Program} {w : World} {K : PySem.W.Frag} {mg : Str → Option Value} {base : Heap}
theorem Fun.okG {x qual : Str} {st : Stmt} {f : Addr} {fd : FuncData} {N ps : List Str} {k : Nat} {sp : Sp} (F : Fun K x qual st f fd) (S : FnScope N ps (defScope st)) (len : ∀ vs H Q E, sp vs H Q E → vs.length = ps.length)
    (hbody : ∀ (cdv : Value) (A : Around), A.guards = some [] → ∀ (outer : List Env) (s : Shared) (H : Hp) (vs : List V) (Q : VK) (E : XK), Room k (A.deeper (envOfC qual (defScope st) s.heap.objs.size f cdv)) → sp vs H Q E →
      ∃ t, PSs (cxOf CX0 P w K mg base N qual (defScope st) f cdv A outer s H E).nox (defBody st) t ∧ t { nx := fun _ H' => Q .non H', rt := Q } (start N vs) H) : FnOkG P w K mg base CX0 (k + 1) f fd ps sp := by
  obtain ⟨oc, od, kV, doc, pm, an, cdv, ct, osl, rfl, lk, hcd⟩ := F.ex
  refine ⟨len, fun A hgd outer s H args us vs Q E hr e0 hb r hsp => ?_⟩
  have hl := len _ _ _ _ hsp
  have KX : K.In s.heap := e0.mod.kin.keeps fun b o e => (e0.bs b o e).1
  have lim : s.heap.NoLimit := e0.mod.nolimit.keeps fun b o e => (e0.bs b o e).1
  have hkind : ∀ y ∈ ps.zip us, (defScope st).names.lookup y.1 = some .local ∨ ((defScope st).names.lookup y.1 = some .cell ∧ ((cellsFrom (s.heap.objs.size + 1) (defScope st).names []).lookup y.1).isSome = true) := fun ⟨n, v⟩ hy => by
    rcases S.par n (List.of_mem_zip hy).1 with q | q
    · exact .inl q
    · exact .inr ⟨q, PySem.W.cellsFrom_some _ _ _ (.inl q)⟩
  refine codeAny_call_function hr.depth (KX _ _ lk) rfl S.co S.gen rfl (PySem.W.codeRec_of KX hcd) (hb _ _ _ _ ?_)
  refine wpAny_newFunctionEnv_cells S.kind hkind fun env he s1 x => ?_
  subst he
  refine ⟨lim.keeps x.toInCall.keep, codeAny_func ?_⟩
  obtain ⟨t, ht, hq⟩ := hbody cdv A hgd outer s H vs Q E (hr.deeper _) hsp
  have ht := ht.nox
  have I : Inv (cxOf CX0 P w K mg base N qual (defScope st) f cdv A outer s H E) [] (start N vs) H s1 := inv_start S hr.hd e0 hl r x
  refine wpAny_mono (ht.run [] s1 (start N vs) H _ I hq) (fun fl s' hs => ?_) fun e s' hs => hs
  have fin : ∀ {σ' : L2.St} {H' : Hp} {v : V} {u : Value}, Inv (cxOf CX0 P w K mg base N qual (defScope st) f cdv A outer s H E) [] σ' H' s' → RelV v u → Q v H' → CE outer P w H s Q u s' :=
    fun {σ' H' v u} J rv q => ⟨v, H', J.os, J.bare, J.base, J.hok, rv, q⟩
  cases fl with
  | ret u =>
    obtain ⟨v, σ', H', J, rv, q⟩ := hs
    exact fin J rv q
  | next =>
    obtain ⟨σ', H', J, q⟩ := hs
    exact fin (v := V.non) (u := Value.none) J rfl q
  | brk =>
    obtain ⟨_, _, _, q⟩ := hs
    exact False.elim q
  | cont =>
    obtain ⟨_, _, _, q⟩ := hs
    exact False.elim q
end
section
variable {X : Cx} {CX : CXT} {k : Nat} {f : Addr} {fd : FuncData} {ps : List Str} {sp : Sp} {E : XK} {x : Str} {e : Expr} {es : List Expr} {t : TA} {p pos : Pos}
theorem pe_callG (F : FnOkG X.prog X.w X.K X.mg X.base CX k f fd ps sp) (hgd : X.A.guards = some []) (hr : Room k X.A) (hg : Gl X x) (hm : X.mg x = some (.ref f)) (hk : PySem.W.keepIn X.K (.ref f) = true) (hb : L2.Binds X.K fd ps []) (hx : Passes CX X E)
    (ha : PA X (e :: es) t) (hdb : (x == ("__debug__" : Str)) = false := by decide) (he : starEach (e :: es) X.env = (false, eval e X.env) :: starEach es X.env := by rfl) (hpl : (backTo pos (starEach es X.env)).any (·.1) = false := by rfl) :
    PE X (.Call (.Name x p) (e :: es) [] pos) (tCall sp [] E t) := by
  refine ⟨fun pins s σ H Q I h => ?_⟩
  refine wpAny_Call_Name_kw (ld_glob I hg hm ?_ hdb)
  refine PySem.W.callWith_K (h₀ := X.base) I.ok.mod.kin hk (thn (ha.run pos pins s σ H _ I h) fun us s1 ⟨vs, H1, I1, r, q⟩ => ⟨I1.kIn, ?_⟩) he hpl
  have q : sp (vs ++ []) H1 Q E := q
  rw [List.append_nil] at q
  have hl : us.length = ps.length := by rw [← r.length]; exact F.len _ _ _ _ q
  have hbt := hb s1 us I1.kIn (by rw [List.append_nil]; exact hl)
  rw [List.append_nil] at hbt
  refine wpAny_call (codeAny_mono (F.run X.A hgd X.stack s1 H1 ⟨us, []⟩ us vs Q E hr I1.env0 hbt r q) fun r s' hq => ?_)
  cases r with
  | error e => exact hx pins σ H1 s1 e s' I1 hq
  | ok fl =>
    cases fl with
    | ret u => exact I1.after hq
    | next => exact False.elim hq
    | brk => exact False.elim hq
    | cont => exact False.elim hq
/-- repr of data -/
def cReprG (K : PySem.W.Frag) : List V → Hp → VK → Prop := fun xs H Q => ∃ (a : Addr) (d : PyData), xs = [.ref a] ∧ Dp K H (.ref a) d ∧ d.showable = true ∧ d.hasDict = false ∧ d.depth ≤ 60 ∧ d.shown.length ≤ sizeLine ∧ Q (.str d.shown) H
theorem call_reprG (hgd : X.A.guards = some []) (hu : X.A.units + 64 < cLine) : CallR X (.builtin "repr") (cReprG X.K) := by
  intro pins s σ H xs us Q I r h
  obtain ⟨a, d, rfl, hd, h1, h2, h3, h4, q⟩ := h
  cases r with
  | cons rv rt =>
  cases rt
  cases rv
  obtain ⟨as, hr⟩ := Dp.reads I d (.ref a) _ hd rfl
  refine repr_of_reads' hr h1 (fun z => by rw [h2] at z; cases z) hgd (by omega) (fun _ _ e => e) (fun h' u tk hk => ⟨.str _, H, I.kept hk, ⟨_, rfl⟩, q⟩) h4
/-- repr of None, of an int -/
def cReprA : List V → Hp → VK → Prop := fun xs H Q => (xs = [.non] ∧ Q (.str "None") H) ∨ ∃ i, xs = [.int i] ∧ i.natAbs.log2 < 1920 ∧ Q (.str (toString i)) H
theorem call_reprA : CallR X (.builtin "repr") cReprA := by
  intro pins s σ H xs us Q I r h
  rcases h with ⟨rfl, q⟩ | h
  · cases r with
    | cons rv rt =>
    cases rt
    cases rv
    exact PySem.P.repr_of_none ⟨.str _, H, I.tok _, ⟨_, rfl⟩, q⟩
  · exact SkE.call_repr_int pins s σ H xs us Q I r h
end
/-- law_call with tables: cs, the code objects and their tables -/
theorem law_callG {P : Program} {w : World} {K : PySem.W.Frag} {mg mb : Str → Option Value} {CX : CXT} {k : Nat} {fa a : Addr} {cs : List (Addr × Addr)} {fd : FuncData} {x : Str} {sp : Sp} {s₁ : Shared} {vs : List Value} {ns : List Int}
    (KX : K.In s₁.heap) (hns : s₁.heap.Ns mainGlobals mg) (hb : s₁.heap.Ns builtinsNs mb) (hbb : ∀ x : Str, x ≠ "__name__" → mb x = bootBuiltins x) (hlim : s₁.heap.NoLimit) (hg : s₁.gens = #[])
    (hT : ∀ p ∈ cs, s₁.heap.get? p.2 = some { cls := .none, data := .fields #[] }) (nT : ∀ p ∈ cs, K.lookup p.2 = none) (C : ∀ p ∈ cs, PySem.W.CodeHd s₁.heap p.1 p.2)
    (hbm : ∃ (bm : Addr) (ob : Obj), mg "__builtins__" = some (.ref bm) ∧ bm ≠ builtinsNs ∧ s₁.heap.get? bm = some ob ∧ ob.cls = .type "module" ∧ ob.dict = some builtinsNs ∧ ob.data = .plain)
    (ha : s₁.heap.get? a = some { cls := .type "list", data := .seq vs.toArray }) (hi : IntsAre vs ns) (hl : ns.length ≤ sizeLine) (hr : Room k callerA)
    (F : ∀ base : Heap, K.In base → base.Ns mainGlobals mg → (∀ p ∈ cs, TabB base mg p.1 p.2) → FnOkG P w K mg base CX k fa fd [x] sp) (hbind : ∀ (s : Shared) (u : Value), BindsTo s fd ⟨[u], []⟩ [(x, u)])
    (hsp : ∀ H : Hp, (∀ p ∈ cs, H p.2 = some (.tbl #[])) → SqL K H a (ns.map V.int) → sp [.ref a] H (fun v _ => v = .bl true) fun _ _ _ => False)
    (hCX : ∀ H e s', CX [] H s₁ (fun _ _ _ => False) e s' → False) :
    codeAny (model P w) callerA (.call (.ref fa) ⟨[.ref a], []⟩) (fun r s' => r = .ok (.ret (.bool true)) ∧ OldK s₁.heap s'.heap ∧ s'.os = s₁.os ∧ AllBare s'.gens) s₁ := by
  have rv := vals_ints hi
  have lenV := hi.length
  have isT : ∀ b : Addr, b ∈ cs.map (·.2) → s₁.heap.get? b = some { cls := .none, data := .fields #[] } := fun b hb => by
    obtain ⟨p, hp, e⟩ := List.mem_map.mp hb
    rw [← e]
    exact hT p hp
  have aT : a ∉ cs.map (·.2) := fun z => by
    have q := isT a z
    rw [ha] at q
    have z' : Data.seq vs.toArray _ = Data.fields #[] := congrArg Obj.data (Option.some.inj q)
    cases z'
  have memT : ∀ p ∈ cs, p.2 ∈ cs.map (·.2) := fun p hp => List.mem_map.mpr ⟨p, hp, rfl⟩
  -- from an abstract heap in which nothing but the script and the tables may be tracked
  have core : ∀ H : Hp, (∀ p ∈ cs, H p.2 = some (.tbl #[])) → (∀ b, H b = none ∨ b ∈ cs.map (·.2) ∨ ∃ o xs, H b = some (.frz o (.lst xs))) → SqL K H a (ns.map V.int) → HOk P w H s₁.heap → (∀ b, H b ≠ none → b = a ∨ b ∈ cs.map (·.2)) → (H a ≠ none → K.lookup a = none) →
      codeAny (model P w) callerA (.call (.ref fa) ⟨[.ref a], []⟩) (fun r s' => r = .ok (.ret (.bool true)) ∧ OldK s₁.heap s'.heap ∧ s'.os = s₁.os ∧ AllBare s'.gens) s₁ := by
    intro H hH hO hS hok hA hK
    have base_of : ∀ {b : Addr} {o : Obj}, s₁.heap.get? b = some o → H b = none → (hidT s₁.heap H).get? b = some o := fun e n => hidT_get e n
    have noD : ∀ {b : Addr} {o : Obj}, s₁.heap.get? b = some o → (∀ vs n, o.data ≠ .seq vs n) → o.data ≠ .fields #[] → H b = none := fun {b o} e h1 h2 => by
      cases q : H b with
      | none => rfl
      | some u =>
        rcases hA b (by rw [q]; simp) with e' | e'
        · rw [e', ha] at e
          cases e
          exact (h1 _ _ rfl).elim
        · rw [isT b e'] at e
          cases e
          exact (h2 rfl).elim
    have noA : ∀ {b : Addr} {o : Obj} {es : Array DictEntry} {ep : Nat}, s₁.heap.get? b = some o → o.data = .dict es ep → H b = none := fun {b o es ep} e d => by
      refine noD e (fun vs n z => ?_) fun z => ?_
      · rw [d] at z
        cases z
      · rw [d] at z
        cases z
    have nsK : ∀ {b : Addr} {m : Str → Option Value}, s₁.heap.Ns b m → (hidT s₁.heap H).Ns b m := fun {b m} ⟨o, es, ep, e, d, r⟩ => ⟨o, es, ep, base_of e (noA e d), d, r⟩
    have hKb : K.In (hidT s₁.heap H) := fun b o e => base_of (KX b o e) (by
      cases q : H b with
      | none => rfl
      | some u =>
        rcases hA b (by rw [q]; simp) with e' | e'
        · rw [e'] at e q
          rw [hK (by rw [q]; simp)] at e
          cases e
        · obtain ⟨p, hp, ep⟩ := List.mem_map.mp e'
          rw [← ep, nT p hp] at e
          cases e)
    have hM : L2.Mod K mg (hidT s₁.heap H) := ⟨hKb, nsK hns, ⟨mb, nsK hb, hbb⟩, let ⟨mc, h1, h2⟩ := hlim; ⟨mc, nsK h1, h2⟩⟩
    have TB : ∀ p ∈ cs, TabB (hidT s₁.heap H) mg p.1 p.2 := fun p hp => by
      have hTp := hT p hp
      refine ⟨?_, ?_, fun z => ?_⟩
      · obtain ⟨o, us, file, tf, flags, tg, inF, text, tt, e1, r1, r2, r3, r4, r5, r6, r7, r8, hne⟩ := C p hp
        refine ⟨o, us, file, tf, flags, tg, inF, text, tt, base_of e1 (noD e1 (fun vs n z => ?_) fun z => ?_), r1, r2, r3, r4, r5, r6, r7, r8, hne⟩
        · rw [r2] at z
          cases z
        · rw [r2] at z
          cases z
          simp at r3
      · obtain ⟨bm, ob, b1, b2, b3, b4, b5, b6⟩ := hbm
        have nG : bm ≠ mainGlobals := fun q => by
          obtain ⟨o, es, ep, e, hd, _⟩ := hns
          rw [q, e] at b3
          cases b3
          rw [hd] at b6
          cases b6
        have nP : bm ≠ p.2 := fun q => by
          rw [q, hTp] at b3
          cases b3
          cases b6
        refine ⟨bm, ob, b1, b2, nG, nP, base_of b3 (noD b3 (fun vs n z => ?_) fun z => ?_), b4, b5, b6⟩
        · rw [b6] at z
          cases z
        · rw [b6] at z
          cases z
      · obtain ⟨o, es, ep, e, hd, _⟩ := hns
        rw [z, hTp] at e
        cases e
        cases hd
    have e0 : Env0 P w K mg (hidT s₁.heap H) callerA [] s₁ H := ⟨rfl, hM, fun b o e => of_hidT e, Nat.le_of_eq (hidT_size _ _), trivial, fun b hb => absurd (show b ∈ ([] : List Addr) from hb) (by simp), hok, .of_eq hg⟩
    refine codeAny_mono ((F _ hKb (nsK hns) TB).run callerA rfl [] s₁ H ⟨[.ref a], []⟩ [.ref a] [.ref a] _ _ hr e0 (hbind s₁ (.ref a)) (.cons rfl .nil) (hsp H hH hS)) fun r s' h => ?_
    cases r with
    | error e => exact (hCX H e s' h).elim
    | ok fl =>
      cases fl with
      | next => exact False.elim h
      | brk => exact False.elim h
      | cont => exact False.elim h
      | ret u =>
        obtain ⟨v, H', os, bare, un, hok', r', q⟩ := h
        have q' : v = .bl true := q
        subst q'
        obtain rfl : u = Value.bool true := r'
        have key : ∀ b o, b ∉ cs.map (·.2) → s₁.heap.get? b = some o → s'.heap.get? b = some o := fun b o nb e => by
          cases q : H b with
          | none => exact un.keep b o e q (by intro z; exact absurd (show b ∈ ([] : List Addr) from z) (by simp)) (by simp)
          | some u =>
            rcases hO b with z | z | ⟨ob, xs, z⟩
            · rw [q] at z; cases z
            · exact absurd z nb
            · have z2 := un.frzs b ob _ z
              obtain ⟨e1, _⟩ := hok b _ z
              obtain ⟨e2, _⟩ := hok' b _ z2
              rw [e] at e1; cases e1
              exact e2
        have grown : ∀ p ∈ cs, ∃ more : Array Value, s'.heap.get? p.2 = some { cls := .none, data := .fields more } := fun p hp => by
          obtain ⟨more, z⟩ := un.tbls p.2 #[] (hH p hp)
          exact ⟨_, hok' p.2 _ z⟩
        refine ⟨rfl, ⟨fun b o e => ?_, fun b o e => ?_⟩, os, bare⟩
        · by_cases hb : b ∈ cs.map (·.2)
          · obtain ⟨p, hp, ep⟩ := List.mem_map.mp hb
            obtain ⟨more, hm⟩ := grown p hp
            rw [← ep] at e ⊢
            rw [hT p hp] at e
            cases e
            exact .inr (.inl ⟨((C p hp).tab (hT p hp)).isCodeTable, rfl, #[], more, rfl, by rw [Array.empty_append]; exact hm⟩)
          · exact .inl (key b o hb e)
        · by_cases hb : b ∈ cs.map (·.2)
          · obtain ⟨p, hp, ep⟩ := List.mem_map.mp hb
            obtain ⟨more, hm⟩ := grown p hp
            rw [← ep]
            exact ⟨_, hm⟩
          · exact ⟨o, key b o hb e⟩
  cases hk : K.lookup a with
  | some o =>
    have e := KX a o hk
    rw [ha] at e
    cases e
    refine core (fun b => if b ∈ cs.map (·.2) then some (.tbl #[]) else none) (fun p hp => if_pos (memT p hp)) (fun b => ?_) (.inr ⟨_, vs.toArray, _, hk, rfl, rfl, rfl, by rw [List.size_toArray, lenV]; exact hl, by simpa using rv⟩) (fun b u z => ?_) (fun b z => ?_) fun z => absurd (show (if a ∈ cs.map (·.2) then some (HO.tbl #[]) else none) = none from if_neg aT) z
    · by_cases hb : b ∈ cs.map (·.2)
      · exact .inr (.inl hb)
      · exact .inl (if_neg hb)
    · by_cases hb : b ∈ cs.map (·.2)
      · have z' := (if_pos hb).symm.trans z
        cases z'
        exact isT b hb
      · have z' := (if_neg hb).symm.trans z
        cases z'
    · by_cases hb : b ∈ cs.map (·.2)
      · exact .inr hb
      · exact absurd (if_neg hb) z
  | none =>
    refine core (fun b => if b = a then some (.frz { cls := .type "list", data := .seq vs.toArray } (.lst (ns.map V.int))) else if b ∈ cs.map (·.2) then some (.tbl #[]) else none) (fun p hp => (if_neg (show ¬ p.2 = a from fun z => aT (by rw [← z]; exact memT p hp))).trans (if_pos (memT p hp))) (fun b => ?_)
      (.inl (.inr ⟨{ cls := .type "list", data := .seq vs.toArray }, if_pos rfl⟩)) (fun b u z => ?_) (fun b z => ?_) fun _ => hk
    · by_cases hb : b = a
      · exact .inr (.inr ⟨_, _, if_pos hb⟩)
      · by_cases hb2 : b ∈ cs.map (·.2)
        · exact .inr (.inl hb2)
        · exact .inl ((if_neg hb).trans (if_neg hb2))
    · by_cases hb : b = a
      · have z' := (if_pos hb).symm.trans z
        cases z'
        rw [hb]
        exact ⟨ha, by rw [List.length_map]; exact hl, vs, _, rv, ha⟩
      · have z1 := (if_neg hb).symm.trans z
        by_cases hb2 : b ∈ cs.map (·.2)
        · have z' := (if_pos hb2).symm.trans z1
          cases z'
          exact isT b hb2
        · have z' := (if_neg hb2).symm.trans z1
          cases z'
    · by_cases hb : b = a
      · exact .inl hb
      · by_cases hb2 : b ∈ cs.map (·.2)
        · exact .inr hb2
        · exact absurd ((if_neg hb).trans (if_neg hb2)) z
/-- what is known of the law's promise at the head's heap h -/
def LawAtG (l : PySem.W.OpenLaw) (w : World) (K : PySem.W.Frag) (CX : CXT) (k n : Nat) (x : Str) (mg : Str → Option Value) (fa : Addr) (h : Heap) : Prop :=
  ∃ (fd : FuncData) (cs : List (Addr × Addr)) (sp : Sp), (∀ p ∈ cs, h.get? p.2 = some { cls := .none, data := .fields #[] }) ∧ (∀ p ∈ cs, K.lookup p.2 = none) ∧ (∀ p ∈ cs, PySem.W.CodeHd h p.1 p.2) ∧ (∀ (s : Shared) (u : Value), BindsTo s fd ⟨[u], []⟩ [(x, u)]) ∧
    (∀ (H : Hp) (a : Addr) (ns : List Int), ns.length ≤ n → (∀ z ∈ ns, Builtin.Int.intBits z ≤ 1048576) → (∀ p ∈ cs, H p.2 = some (.tbl #[])) → SqL K H a (ns.map V.int) → sp [.ref a] H (fun v _ => v = .bl true) fun _ _ _ => False) ∧
    ∀ base : Heap, K.In base → base.Ns mainGlobals mg → (∀ p ∈ cs, TabB base mg p.1 p.2) → FnOkG l.prog w K mg base CX k fa fd [x] sp
theorem walk_ofG {l : PySem.W.OpenLaw} {n k : Nat} {q : Program} {loose : List Str} {XP : (Str → Option Value) → Heap → Prop} {YP : World → Heap → Prop} {d : DefRec} {K : Params → PySem.W.Frag} {CX : World → CXT} {x : Str}
    (hn : l.most = some n) (hn2 : n ≤ sizeLine) (hdf : d.params.defaults = []) (hr : Room k callerA) (hY : ∀ (w : World) (h : Heap), YP w h → (K w.params).In h)
    (F : ∀ (w : World) (mg : Str → Option Value) (fa : Addr) (h : Heap), YP w h → (K w.params).In h → h.Ns mainGlobals mg → mg d.name = some (.ref fa) → LawAtG l w (K w.params) (CX w) k n x mg fa h)
    (hCX : ∀ (w : World) (H : Hp) (s : Shared) (e : Value) (s' : Shared), CX w [] H s (fun _ _ _ => False) e s' → False) :
    PySem.W.WalkO q loose XP YP l.row.toRowW d [] (fun f vs => PySem.call f vs) := by
  refine Att.attach_callB hn hdf fun w s₀ s₁ mg mb fa o pm cd doc a vs ns G Y ho hd hcd hmg hobj hints hlen hbits hg => ?_
  have KX := hY w _ Y
  obtain ⟨fd, cs, sp, hT, nT, C, hb, hsp, hF⟩ := F w mg fa _ Y KX G.T.g hmg
  exact law_callG KX G.T.g G.T.b G.T.builtins G.T.nolimit hg hT nT C G.T.bmain hobj hints (Nat.le_trans hlen hn2) hr hF hb (fun H hH hS => hsp H a ns hlen hbits hH hS) fun H e s' => hCX w H s₁ e s'
end Dl

set_option Elab.async false
set_option linter.all false
set_option maxRecDepth 100000
set_option maxHeartbeats 1000000
/-! D16: repr of data, tuples times ints. -/
namespace Dl
open PySem PySem.Spec PyProof.Rows L2
theorem tupleText_len (ts : List Str) : (tupleText ts).length ≤ piled ts + 3 := by
  unfold tupleText
  rw [strLen_append, strLen_append]
  have e1 : ((("(" : String) : Str)).length = 1 := rfl
  have e3 : (((if ts.length == 1 then ",)" else ")" : String) : Str)).length ≤ 2 := by split <;> decide
  rw [e1]
  by_cases h : ts = []
  · subst h
    have : (Str.join ", " []).length = 0 := rfl
    omega
  · have := join_length_add ts h
    omega
theorem piled_le {B : Nat} : ∀ {ts : List Str}, (∀ t ∈ ts, t.length ≤ B) → piled ts ≤ ts.length * (B + 2)
  | [], _ => by simp [piled]
  | t :: ts, h => by
    have := piled_le (ts := ts) fun x hx => h x (List.mem_cons_of_mem _ hx)
    have h2 := h t List.mem_cons_self
    rw [piled_cons, List.length_cons, Nat.add_mul]
    omega
/-- what is shown in at most B signs -/
def Shw (B : Nat) (d : DD) : Prop := (pyD d).showable = true ∧ (pyD d).shown.length ≤ B
theorem shw_int {i : Int} (h : i.natAbs.log2 < 1920) : Shw 1922 (.int i) := by
  unfold Shw
  rw [pyD]
  refine ⟨by simp only [PyData.showable]; exact decide_eq_true h, ?_⟩
  simp only [PyData.shown]
  have e := int_text_length_le (k := 1920) (by decide) h
  rw [PySem.ofString_length]; omega
theorem shw_str {x : Str} {B : Nat} (h : (reprText x).length ≤ B) : Shw B (.str x) := by
  unfold Shw
  rw [pyD]
  exact ⟨by simp [PyData.showable], by simp only [PyData.shown]; exact h⟩
theorem shw_mono {B C : Nat} {d : DD} (h : Shw B d) (k : B ≤ C) : Shw C d := ⟨h.1, Nat.le_trans h.2 k⟩
theorem shw_tup {B n : Nat} {ds : List DD} (h : ∀ d ∈ ds, Shw B d) (hn : ds.length ≤ n) : Shw (n * (B + 2) + 3) (.tup ds) := by
  unfold Shw
  rw [pyD_tup]
  have a1 : PyData.showableAll (ds.map pyD) = true := by
    clear hn
    induction ds with
    | nil => rfl
    | cons d ds ih =>
      rw [List.map_cons]
      simp only [PyData.showableAll]
      rw [(h d List.mem_cons_self).1, ih fun x hx => h x (List.mem_cons_of_mem _ hx)]; rfl
  have a2 : ∀ t ∈ PyData.shownAll (ds.map pyD), t.length ≤ B := by
    clear hn a1
    induction ds with
    | nil => intro t ht; simp [PyData.shownAll] at ht
    | cons d ds ih =>
      intro t ht
      rw [List.map_cons] at ht
      simp only [PyData.shownAll, List.mem_cons] at ht
      rcases ht with rfl | ht
      · exact (h d List.mem_cons_self).2
      · exact ih (fun x hx => h x (List.mem_cons_of_mem _ hx)) t ht
  have a3 : (PyData.shownAll (ds.map pyD)).length = ds.length := by
    clear hn a1 a2 h
    induction ds with
    | nil => rfl
    | cons d ds ih => rw [List.map_cons]; simp only [PyData.shownAll, List.length_cons]; omega
  refine ⟨by simp only [PyData.showable]; exact a1, ?_⟩
  simp only [PyData.shown]
  have b1 := tupleText_len (PyData.shownAll (ds.map pyD))
  have b2 := piled_le a2
  rw [a3] at b2
  have b3 : ds.length * (B + 2) ≤ n * (B + 2) := Nat.mul_le_mul_right _ hn
  omega
section
variable {W : Wd} {ρ : List Slot} {K : PySem.W.Frag} {P : Slot → Prop}
theorem cap_reprG {B n : Nat} {ds : List DD} (hp : pl n (.tup ds) = true) (hn : n ≤ 60) (hs : Shw B (.tup ds)) (hB : B ≤ 16000000) (k : P (.dat (.str (pyD (.tup ds)).shown))) : CaP W (cReprG K) [.dat (.tup ds)] P := fun G H xs c v Q q => by
  obtain ⟨x, rfl, v1⟩ := pair1 v
  obtain ⟨h1, h2, h3, h4⟩ := pl_all (K := K) n _ hp
  have hd := h1 v1 c.gh
  cases v1 with
  | @tup a ys _ a1 a2 =>
  refine ⟨a, _, rfl, hd, hs.1, h4, by omega, by have := hs.2; rw [sizeLine_eq]; omega, q _ G H _ (Fr.self c) (vd (Rp.str _)) k⟩
theorem cap_reprN (k : P (.dat (.str ("None" : Str)))) : CaP W cReprA [.dat .non] P := fun G H xs c v Q q => by
  obtain ⟨x, rfl, v1⟩ := pair1 v
  cases v1
  exact .inl ⟨rfl, q _ G H _ (Fr.self c) (vd (Rp.str _)) k⟩
theorem cap_reprI {i : Int} (h : i.natAbs.log2 < 1920) (k : P (.dat (.str (toString i)))) : CaP W cReprA [.dat (.int i)] P := fun G H xs c v Q q => by
  obtain ⟨x, rfl, v1⟩ := pair1 v
  cases v1
  exact .inr ⟨i, rfl, h, q _ G H _ (Fr.self c) (vd (Rp.str _)) k⟩
/-- != of the same text -/
theorem opp_neS {x y : Str} (k : P (.dat (.bl (!decide (x = y))))) : OpP W rNe (.dat (.str x)) (.dat (.str y)) P := fun G H u z c vx vy Q q => by
  cases vx; cases vy
  exact ⟨rfl, by
    have := q _ G H _ (Fr.self c) (vd (Rp.bl _)) k
    have e : decide (V.str x = V.str y) = decide (x = y) := decide_eq_decide.mpr ⟨fun z => V.str.inj z, fun z => by rw [z]⟩
    rw [e]; exact this⟩
theorem opp_rep {ds : List DD} {k : Int} (h0 : ds ≠ []) (hl : ds.length ≤ 1000) (k0 : 0 ≤ k) (k1 : k ≤ 1000) (p : P (.dat (.tup (List.replicate k.toNat ds).flatten))) : OpP W (rRepU K) (.dat (.tup ds)) (.dat (.int k)) P := fun G H x y c vx vy Q q => by
  cases vy
  cases vx with
  | @tup a xs _ h1 h2 =>
  have hlen := h2.length
  refine ⟨a, k, xs, rfl, rfl, SqT.of (c.gh _ _ h1), fun z => h0 (List.eq_nil_of_length_eq_zero (by rw [← hlen, z]; rfl)), k0, k1, by omega, fun e => ?_, fun _ p' hp => ?_⟩
  · subst e
    have e : (List.replicate (1 : Int).toNat ds).flatten = ds := by simp
    rw [e] at p
    exact q _ G H _ (Fr.self c) (vd (Rp.tup h1 h2)) p
  · have f := W.new (o := .tup (List.replicate k.toNat xs).flatten) c hp
    have rep : ∀ n : Nat, RpAll G (List.replicate n xs).flatten (List.replicate n ds).flatten := fun n => by
      induction n with
      | zero => exact .nil
      | succ n ih => rw [List.replicate_succ, List.replicate_succ, List.flatten_cons, List.flatten_cons]; exact h2.append ih
    exact q _ _ _ _ f (vd (Rp.tup upd_same ((rep k.toNat).mono f.gg))) p
end
end Dl

set_option Elab.async false
set_option linter.all false
set_option maxRecDepth 100000
set_option maxHeartbeats 1000000
/-! D17: defs over data that know that no repr is under way. -/
namespace Dl
open PySem PySem.Spec PyProof.Rows L2
section
variable {P : Program} {w : World} {K : PySem.W.Frag} {mg : Str → Option Value} {base : Heap}
theorem fn_sdG {x qual : Str} {st : Stmt} {f : Addr} {fd : FuncData} {N ps : List Str} {k : Nat} {M : Addr → Prop} {J : Hp → Prop} {C : List Slot → (DD → Prop) → ErrP → Prop} (F : Fun K x qual st f fd) (S : FnScope N ps (defScope st))
    (jl : ∀ H H', J H → (∀ a, M a → H' a = H a) → J H') (jm : ∀ H a, J H → M a → H a ≠ none) (len : ∀ ss R RE, C ss R RE → ss.length = ps.length) (hps : ps.length ≤ N.length)
    (hbody : ∀ (cdv : Value) (A : Around), A.guards = some [] → ∀ (outer : List Env) (s : Shared) (H : Hp) (E : XK), Room k (A.deeper (envOfC qual (defScope st) s.heap.objs.size f cdv)) →
      ∃ t, PSs (cxOf CX0 P w K mg base N qual (defScope st) f cdv A outer s H E).nox (defBody st) t ∧ ∀ (W : Wd) ss R RE, W.M = M → W.J = J → C ss R RE → SD W t (startS N ss) { nx := fun _ => R .non, rt := R }) :
    FnOkG P w K mg base CX0 (k + 1) f fd ps (spE M J C) := by
  refine Fun.okG F S (fun vs H Q E h => ?_) (fun cdv A hgd outer s H vs Q E hr h => ?_)
  · obtain ⟨G, ss, R, RE, g, j, mg, va, c, _, _⟩ := h
    rw [argsOk_len va]; exact len ss R RE c
  · obtain ⟨G, ss, R, RE, g, j, mg, va, c, q, _⟩ := h
    obtain ⟨t, ht, hsd⟩ := hbody cdv A hgd outer s H E hr
    refine ⟨t, ht, ?_⟩
    have hl := len ss R RE c
    exact hsd ⟨M, J, G, H, jl, jm, mg, g, j⟩ ss R RE rfl rfl c _ G H (st_start (W := ⟨M, J, G, H, jl, jm, mg, g, j⟩) (by omega) va) _
      ⟨fun σ2 G2 H2 ρ2 S2 _ k => q .non G2 H2 .non S2.cur .non k, fun x G2 H2 d c2 rx k => q x G2 H2 d c2 rx k, fun _ _ _ _ _ _ z => z.elim, fun _ _ _ _ _ _ z => z.elim⟩
theorem fn_spDG {CX : CXT} {k : Nat} {f : Addr} {fd : FuncData} {ps : List Str} {C : Addr × Addr → List Slot → (DD → Prop) → ErrP → Prop}
    (h : ∀ i, FnOkG P w K mg base CX k f fd ps (spE (dM i) (dJ i) (C i))) : FnOkG P w K mg base CX k f fd ps (spD C) :=
  ⟨fun vs H Q E ⟨i, q⟩ => (h i).len vs H Q E q, fun A hgd outer s H args us vs Q E hr he hb hv ⟨i, q⟩ => (h i).run A hgd outer s H args us vs Q E hr he hb hv q⟩
end
theorem gd_deeper {A : Around} {env : Env} (h : A.guards = some []) : (A.deeper env).guards = some [] := h
/-- a def as its callers see it, the guards known -/
def FDG (P : Program) (w : World) (K : PySem.W.Frag) (mg : Str → Option Value) (base : Heap) (CX : CXT) (k : Nat) (f : Addr) (ps : List Str) (sp : Sp) : Prop := PySem.W.keepIn K (.ref f) = true ∧ ∃ fd, FnOkG P w K mg base CX k f fd ps sp ∧ L2.Binds K fd ps []
end Dl

set_option Elab.async false
set_option linter.all false
set_option maxRecDepth 100000
set_option maxHeartbeats 1000000
namespace Dl
open PySem PySem.Spec PyProof.Rows L2
local macro_rules | `(tactic| wtm_at "d") => `(tactic| first
  | with_reducible refine sd_seq ?_ | with_reducible refine sd_if ?_ | with_reducible refine sd_ret ?_
  | with_reducible refine evp_op ?_ | with_reducible refine evp_un ?_ | with_reducible refine evp_cb ?_ | with_reducible refine evp_tupD ?_
  | with_reducible refine evp_andV ?_ | with_reducible refine evp_orV ?_ | with_reducible refine evp_notV ?_ | with_reducible refine evp_if ?_
  | with_reducible refine evt_test ?_ | with_reducible refine evt_B ?_ | with_reducible refine evt_and ?_ | with_reducible refine evt_or ?_ | with_reducible refine evt_not ?_
  | with_reducible refine eva_cons ?_ | with_reducible refine eva_nil ?_
  | with_reducible refine evp_int ?_ | with_reducible refine evp_str ?_ | with_reducible refine evp_bl ?_ | with_reducible refine evp_non ?_ | with_reducible refine evp_any ?_
  | (with_reducible refine evp_isv ?_; refine evp_dat rfl ?_)
  | with_reducible refine evp_callP ?_ | with_reducible refine evp_chain ?_
  | with_reducible refine sd_next ?_
  | with_reducible refine opp_add ?_ | with_reducible refine opp_sub ?_ | with_reducible refine opp_lt ?_ | with_reducible refine opp_le ?_ | with_reducible refine opp_gt ?_ | with_reducible refine opp_ge ?_
  | with_reducible refine opp_isN ?_ | with_reducible refine opp_notN ?_ | with_reducible refine unp_neg ?_
  | with_reducible refine ex_bl ?_ | with_reducible refine ex_dat ?_ | with_reducible refine ex_int ?_)
local macro_rules | `(tactic| wtm_at "e") => `(tactic| first | wtm_at "d" | with_reducible refine sd_set ?_)
variable {P : Program} {w : World} {K : PySem.W.Frag} {mg : Str → Option Value} {base : Heap} {A : Ads}
/-! _law_planned -/
def dotS (ms cs : List Nat) : Nat := ((ms.zip cs).map fun p => p.1 * p.2).sum
/-- what the law asks of the plan that elder_plan brings -/
structure EpFacts (cs : List Nat) (pl : List Pl) : Prop where
  len1 : 1 ≤ pl.length
  len20 : pl.length ≤ 20
  ok : PlRef pl
  bad : badAt ((cs.length + 1 : Nat) : Int) 0 (pl.map Pl.stp) = none
  lf : lfAt pl (rowsOf pl) 0 pl = none
  ef : ∃ els, EldOk pl els ∧ faultAt pl els 0 pl = none
  rows : ∃ rs, RowsOk (cs.length + 1) pl rs ∧ rs.getLast? = some ((1 - (cs.sum : Int)) :: cs.map fun c : Nat => (c : Int)) ∧ ∀ r ∈ rs, ∀ x ∈ r, x.natAbs.log2 < 1920
  lens : ∀ (base : Nat) (ms : List Nat), ms.length = cs.length → base ≤ 3 → (∀ m ∈ ms, m ≤ 3) → ∃ ls, LenOk (base :: ms.map fun m => base + m) pl ls ∧ ls.getLast? = some (base + dotS ms cs)
  small : ∀ (p : Pl), p ∈ pl → match p with | .v n => n ≤ 1000 | .m _ _ _ => True
abbrev c__law_planned (i : Addr × Addr) : List Slot → (DD → Prop) → ErrP → Prop := fun ss R _ => ∃ cs : List Nat, ss = [.dat (.any (.ref i.1)), .seq .lent (nD cs)] ∧ 1 ≤ cs.length ∧ cs.length ≤ 5 ∧ cs.sum ≤ 9 ∧ (∀ ms : List Nat, ms.Pairwise (· < ·) → (∀ k, k ∈ ms ↔ k ∈ rowOf cs) → ms.length ≤ cs.sum → EpFacts cs (eplan cs ms)) ∧ R (.bl true)
theorem nD_inj {a b : List Nat} (h : nD a = nD b) : a = b := List.map_inj_right (fun x y z => Int.ofNat.inj (DD.int.inj z)) |>.mp h
theorem shw_nat {n : Nat} (h : n ≤ 1000) : Shw 1922 (.int (n : Int)) := shw_int (by
  rw [Int.natAbs_natCast]
  rcases Nat.eq_zero_or_pos n with h0 | h0
  · subst h0; decide
  · exact (Nat.log2_lt (by omega)).mpr (Nat.lt_of_le_of_lt h (Nat.lt_of_lt_of_le (by decide : 1000 < 2 ^ 10) (Nat.pow_le_pow_right (n := 2) (by decide) (by decide : 10 ≤ 1920)))))
theorem shw_pl {pl : List Pl} (hok : PlRef pl) (hl : pl.length ≤ 20) (hs : ∀ (p : Pl), p ∈ pl → match p with | .v n => n ≤ 1000 | .m _ _ _ => True) : ∀ d ∈ List.map Pl.dd pl, Shw 7699 d := fun d hd => by
  obtain ⟨p, hp, rfl⟩ := List.mem_map.mp hd
  obtain ⟨j, hj, e⟩ := List.getElem_of_mem hp
  have href := hok j p (by rw [List.getElem?_eq_getElem hj, e])
  have hsm := hs p hp
  have s1 : Shw 1922 (.str ("version" : Str)) := shw_str (by decide +kernel)
  have s2 : Shw 1922 (.str ("merge" : Str)) := shw_str (by decide +kernel)
  cases p with
  | v n =>
    refine shw_mono (shw_tup (B := 1922) (n := 4) (fun d hd => ?_) (by show 2 ≤ 4; decide)) (by decide)
    rcases List.mem_cons.mp hd with rfl | hd
    · exact s1
    · rcases List.mem_cons.mp hd with rfl | hd
      · exact shw_nat hsm
      · cases hd
  | m b c y =>
    obtain ⟨h1, h2, h3⟩ := href
    refine shw_mono (shw_tup (B := 1922) (n := 4) (fun d hd => ?_) (by show 4 ≤ 4; decide)) (by decide)
    rcases List.mem_cons.mp hd with rfl | hd
    · exact s2
    · rcases List.mem_cons.mp hd with rfl | hd
      · exact shw_nat (by omega)
      · rcases List.mem_cons.mp hd with rfl | hd
        · exact shw_nat (by omega)
        · rcases List.mem_cons.mp hd with rfl | hd
          · exact shw_nat (by omega)
          · cases hd
theorem cap_new {W : Wd} {r : List V → Hp → VK → Prop} {ss : List Slot} {P : Slot → Prop} (h : CaF W r ss fun ds => P (.dat (.lst ds))) : CaP W r ss P := fun G H xs c v Q q =>
  h G H xs c v _ fun p ys G2 H2 ds f hp gp h2 ra k => by
    have m : Same G2 (upd G2 p (.lst ys)) := fun a u e => by
      have : a ≠ p := fun z => by subst z; rw [gp] at e; cases e
      rw [upd_ne this]; exact e
    exact q _ _ _ _ (f.settle hp gp h2) (vd (Rp.lst upd_same (ra.mono m))) k
theorem pl_dds (pl : List Pl) : Dl.pl 2 (.tup (List.map Pl.dd pl)) = true := by
  show ((List.map Pl.dd pl).all fun d => Dl.pl 1 d) = true
  rw [List.all_map, List.all_eq_true]
  exact fun p _ => pl_dd1 p
theorem edd (pl : List Pl) : (List.map (fun st => DD.tup st.ds) (List.map Pl.stp pl)) = List.map Pl.dd pl := by rw [List.map_map]; rfl
theorem atI_last {α : Type} {l : List α} {x : α} (h : l.getLast? = some x) : atI l (-1) = some x := by
  have hne : l ≠ [] := fun z => by rw [z] at h; cases h
  have hl : 0 < l.length := List.length_pos_iff.mpr hne
  have e : ixN l.length (-1) = some (l.length - 1) := by
    unfold ixN
    simp
    omega
  unfold atI
  rw [e]
  show l[l.length - 1]? = some x
  rw [← List.getLast?_eq_getElem?]; exact h
theorem pl_rows (rs : List (List Int)) : Dl.pl 2 (.tup (rs.map rowD)) = true := by
  show ((rs.map rowD).all fun d => Dl.pl 1 d) = true
  rw [List.all_map, List.all_eq_true]
  intro r _
  show ((r.map DD.int).all fun d => Dl.pl 0 d) = true
  rw [List.all_map, List.all_eq_true]
  exact fun _ _ => rfl
theorem rep_txt (l : Int) (n : Nat) : DD.tup (List.replicate n [DD.int l]).flatten = txt l n := by
  unfold txt
  congr 1
  induction n with
  | zero => rfl
  | succ n ih => rw [List.replicate_succ, List.flatten_cons, ih, List.replicate_succ]; rfl
theorem ok__law_planned (T : Txe P K mg A) : FDG P w K mg base CX0 10 A._law_planned ["_law_deal", "_law_counts_here"] (spD c__law_planned) := by
  obtain ⟨fd, F⟩ := T.F__law_planned
  obtain ⟨k_elder_plan, fd_elder_plan, G_elder_plan, B_elder_plan⟩ := ok_elder_plan (P := P) (w := w) (base := base) T
  obtain ⟨k_elder_fault, fd_elder_fault, G_elder_fault, B_elder_fault⟩ := ok_elder_fault (P := P) (w := w) (base := base) T
  obtain ⟨k__law_fault, fd__law_fault, G__law_fault, B__law_fault⟩ := ok__law_fault (P := P) (w := w) (base := base) T.toTxt
  obtain ⟨k_need_plan, fd_need_plan, G_need_plan, B_need_plan⟩ := ok_need_plan (P := P) (w := w) (base := base) T
  obtain ⟨k__law_counts, fd__law_counts, G__law_counts, B__law_counts⟩ := ok__law_counts (P := P) (w := w) (base := base) T.toTxt
  obtain ⟨k_plan_counts, fd_plan_counts, G_plan_counts, B_plan_counts⟩ := ok_plan_counts (P := P) (w := w) (base := base) T
  obtain ⟨k__law_any, fd__law_any, G__law_any, B__law_any⟩ := ok__law_any (P := P) (w := w) (base := base) T.toTxt
  obtain ⟨k_plan_texts, fd_plan_texts, G_plan_texts, B_plan_texts⟩ := ok_plan_texts (P := P) (w := w) (base := base) T
  refine ⟨F.kp, fd, ?_, F.binds fun _ _ _ _ _ _ us hl => match us, hl with | [_, _], _ => rfl⟩
  refine fn_spDG fun i => fn_sdG F sc__law_planned (d_jl i) (d_jm i) ?len (by decide) fun cdv B hgd outer s H E hr => ⟨_,
    (pss_cons (ps_set (i := 2) sc__law_planned.nd rfl (Or.inl rfl) (pe_call G_elder_plan (hr.mono (by decide)) (by rfl) T.g_elder_plan k_elder_plan B_elder_plan .nil passL (pa_cons (pe_callTy (T := "list") (r := cLst K) call_cLst (by rfl) T.n_list (by decide +kernel) (pa_cons (pv 1) pa_nil)) pa_nil)))
      (pss_cons (ps_set (i := 3) sc__law_planned.nd rfl (Or.inl rfl) (pe_op op_addU (pe_callB (r := cLen K) call_cLen (by rfl) T.n_len (by decide +kernel) (pa_cons (pv 1) pa_nil)) pe_int))
      (pss_cons (ps_if (PW.pt (pw_or (pt_cmpR (r := rNe) op_ne (pe_callB (r := cReprG K) (call_reprG (gd_deeper hgd) hr.units) (by rfl) T.n_repr (by decide +kernel) (pa_cons (pe_call G_need_plan (hr.mono (by decide)) (by rfl) T.g_need_plan k_need_plan B_need_plan .nil passL (pa_cons (pv 3) (pa_cons (pv 2) pa_nil))) pa_nil)) (pe_callB (r := cReprG K) (call_reprG (gd_deeper hgd) hr.units) (by rfl) T.n_repr (by decide +kernel) (pa_cons (pv 2) pa_nil)) (nomark _)) (pw_or (pt_cmpR op_notN1 (pe_call G__law_fault (hr.mono (by decide)) (by rfl) T.g__law_fault k__law_fault B__law_fault .nil pass0 (pa_cons (pv 2) pa_nil)) pe_non (nomark _)) (pw_or1 (pt_cmpR op_notN1 (pe_call G_elder_fault (hr.mono (by decide)) (by rfl) T.g_elder_fault k_elder_fault B_elder_fault .nil passL (pa_cons (pv 3) (pa_cons (pv 2) pa_nil))) pe_non (nomark _))))))
      (pss_one (ps_ret pe_bl))
      pss_nil)
      (pss_cons (ps_set (i := 4) sc__law_planned.nd rfl (Or.inl rfl) (pe_call G__law_counts (hr.mono (by decide)) (by rfl) T.g__law_counts k__law_counts B__law_counts .nil pass0 (pa_cons (pv 3) (pa_cons (pv 2) pa_nil))))
      (pss_cons (ps_if (PW.pt (pw_or (pt_cmpR (r := rNeD K) (op_neD hr.units) (pe_ix (r := rIx K) ix_seq (pv 4) (pe_un un_negI pe_int) (fun _ _ => rfl)) (pe_op op_addU (pe_lst (pa_cons (pe_op op_subI pe_int (pe_callB (r := rSumU K) (cr_sumU rfl) (by rfl) T.n_sum (by decide +kernel) (pa_cons (pv 1) pa_nil))) pa_nil)) (pe_callTy (T := "list") (r := cLst K) call_cLst (by rfl) T.n_list (by decide +kernel) (pa_cons (pv 1) pa_nil))) (nomark _)) (pw_or1 (pt_cmpR (r := rNe) op_ne (pe_callB (r := cReprG K) (call_reprG (gd_deeper hgd) hr.units) (by rfl) T.n_repr (by decide +kernel) (pa_cons (pe_call G_plan_counts (hr.mono (by decide)) (by rfl) T.g_plan_counts k_plan_counts B_plan_counts .nil pass0 (pa_cons (pv 3) (pa_cons (pv 2) pa_nil))) pa_nil)) (pe_callB (r := cReprG K) (call_reprG (gd_deeper hgd) hr.units) (by rfl) T.n_repr (by decide +kernel) (pa_cons (pe_callTy (T := "tuple") (r := cTup K) call_cTup (by rfl) T.n_tuple (by decide +kernel) (pa_cons (pe_lc (own := [("_law_row", 12)]) (g := (gName 12)) (by rfl) sc__law_planned.nd (pi_seqK (K := K) rfl (pv 4)) (blkOk_by (own := [("_law_row", 12)]) (N := N__law_planned) (sc := defScope s__law_planned) (by decide +kernel)) (fun _ _ _ _ _ => (pg_name (i := 12) sc__law_planned.nd rfl (Or.inl rfl))) (fun _ _ _ _ _ => pts_nil) (fun _ _ _ _ _ => (pe_callTy (T := "tuple") (r := cTup K) call_cTup (by rfl) T.n_tuple (by decide +kernel) (pa_cons (pv 12) pa_nil)))) pa_nil)) pa_nil)) (nomark _)))))
      (pss_one (ps_ret pe_bl))
      pss_nil)
      (pss_cons (ps_asg (pe_tup (pa_cons (pe_call G__law_any (hr.mono (by decide)) (by rfl) T.g__law_any k__law_any B__law_any .nil pass0 (pa_cons (pv 0) (pa_cons pe_int pa_nil))) (pa_cons (pe_call G__law_any (hr.mono (by decide)) (by rfl) T.g__law_any k__law_any B__law_any .nil pass0 (pa_cons (pv 0) (pa_cons pe_int pa_nil))) pa_nil))) (pg_tup rfl (pgs_cons (pg_name (i := 5) sc__law_planned.nd rfl (Or.inr rfl)) (pgs_cons (pg_name (i := 6) sc__law_planned.nd rfl (Or.inr rfl)) pgs_nil))))
      (pss_cons (ps_setLc (i := 7) (own := [("_law_one", 10)]) (g := (gName 10)) (by rfl) sc__law_planned.nd rfl rfl (sw_true rfl rfl rfl (by decide +kernel)) (pi_seqK (K := K) rfl (pv 1)) (blkOk_by (own := [("_law_one", 10)]) (N := N__law_planned) (sc := defScope s__law_planned) (by decide +kernel)) (fun _ _ _ _ _ => (pg_name (i := 10) sc__law_planned.nd rfl (Or.inl rfl))) (fun _ _ _ _ _ => pts_nil) (fun _ _ _ _ _ => (pe_call G__law_any (hr.mono (by decide)) (by rfl) T.g__law_any k__law_any B__law_any .nil pass0 (pa_cons (pv 0) (pa_cons pe_int pa_nil)))))
      (pss_cons (ps_set (i := 8) sc__law_planned.nd rfl (Or.inl rfl) (pe_op op_addU (pe_lst (pa_cons (pe_op (r := rRepU K) op_repU (pe_tup (pa_cons (pv 5) pa_nil)) (pv 6)) pa_nil)) (pe_lc (own := [("_law_one", 10)]) (g := (gName 10)) (by rfl) sc__law_planned.nd (pi_seqK (K := K) rfl (pv 7)) (blkOk_by (own := [("_law_one", 10)]) (N := N__law_planned) (sc := defScope s__law_planned) (by decide +kernel)) (fun _ _ _ _ _ => (pg_name (i := 10) sc__law_planned.nd rfl (Or.inl rfl))) (fun _ _ _ _ _ => pts_nil) (fun _ _ _ _ _ => (pe_op (r := rRepU K) op_repU (pe_tup (pa_cons (pv 5) pa_nil)) (pe_op op_addU (pv 6) (pv 10)))))))
      (pss_cons (ps_set (i := 9) sc__law_planned.nd rfl (Or.inl rfl) (pe_op op_addU (pv 6) (pe_callB (r := rSumU K) (cr_sumU rfl) (by rfl) T.n_sum (by decide +kernel) (pa_cons (pe_lc (own := [("_law_one", 10), ("_law_count", 11)]) (g := (gTup K 2 (gCons (gName 10) (gCons (gName 11) gNil)))) (by rfl) sc__law_planned.nd (pi_zipK (K := K) rfl (by rfl) T.n_zip (pa_cons (pv 7) (pa_cons (pv 1) pa_nil))) (blkOk_by (own := [("_law_one", 10), ("_law_count", 11)]) (N := N__law_planned) (sc := defScope s__law_planned) (by decide +kernel)) (fun _ _ _ _ _ => (pg_tup rfl (pgs_cons (pg_name (i := 10) sc__law_planned.nd rfl (Or.inl rfl)) (pgs_cons (pg_name (i := 11) sc__law_planned.nd rfl (Or.inl rfl)) pgs_nil)))) (fun _ _ _ _ _ => pts_nil) (fun _ _ _ _ _ => (pe_op op_mulI (pv 10) (pv 11)))) pa_nil))))
      (pss_one (ps_ret (pe_cmpR (r := rEqD K) (op_eqD hr.units) (pe_ix (r := rIx K) ix_seq (pe_call G_plan_texts (hr.mono (by decide)) (by rfl) T.g_plan_texts k_plan_texts B_plan_texts .nil pass0 (pa_cons (pv 8) (pa_cons (pv 2) pa_nil))) (pe_un un_negI pe_int) (fun _ _ => rfl)) (pe_op (r := rRepU K) op_repU (pe_tup (pa_cons (pv 5) pa_nil)) (pv 9)) (nomark _))))))))))))), ?body⟩
  case len => intro ss R RE hc; (first | (obtain ⟨_, rfl, _⟩ := hc; rfl) | (obtain ⟨_, _, rfl, _⟩ := hc; rfl) | (obtain ⟨_, _, _, rfl, _⟩ := hc; rfl) | (obtain ⟨_, _, _, _, rfl, _⟩ := hc; rfl) | (obtain ⟨_, _, _, _, _, rfl, _⟩ := hc; rfl) | (obtain ⟨_, _, _, _, _, _, rfl, _⟩ := hc; rfl) | (obtain ⟨_, _, _, _, _, _, _, rfl, _⟩ := hc; rfl) | (obtain ⟨_, _, _, _, _, _, _, _, rfl, _⟩ := hc; rfl) | (obtain ⟨_, _, _, _, _, _, _, _, _, rfl, _⟩ := hc; rfl) | (obtain ⟨_, _, _, _, _, _, _, _, _, _, rfl, _⟩ := hc; rfl) | (obtain ⟨_, _, _, _, _, _, _, _, _, _, _, rfl, _⟩ := hc; rfl))
  case body =>
    rintro W ss R RE hM hJ ⟨cs, rfl, h1, h5, h9, hfacts, hR⟩
    repeat (wtm_at "e")
    refine evp_call0 ?_
    repeat (wtm_at "d")
    refine evp_seq rfl (.seq _ _) ?_
    repeat (wtm_at "d")
    refine cap_new (caf_list (.seq _ _) ?_)
    repeat (wtm_at "d")
    refine ⟨rfl, _, .lst, rfl, rfl, fun h => absurd h (by decide), fun _ => ⟨_, .lst _, fun d hd => ?_, fun hb => ?_, ?_⟩⟩
    · obtain ⟨k, _, rfl⟩ := List.mem_map.mp hd
      exact ⟨.int, rfl⟩
    · rcases hb with hb | hb | hb | ⟨cs', e, hb⟩
      · rw [nD_len] at hb; omega
      · rw [nD_len] at hb; omega
      · have : (nD cs).all numD = true := by
          rw [List.all_eq_true]
          intro d hd
          obtain ⟨k, _, rfl⟩ := List.mem_map.mp hd
          exact decide_eq_true (show (0 : Int) ≤ (k : Int) by omega)
        rw [this] at hb; cases hb
      · have := nD_inj (a := cs) (b := cs') e
        rw [← this] at hb; omega
    intro cs' ecs _ _ _ ms hms1 hms2 hms3
    obtain rfl : cs = cs' := nD_inj ecs
    obtain ⟨l1, l20, hok, hbad, hlf, ⟨els, hel, hef⟩, ⟨rs, hrs, hlast, hsmall⟩, hlens, hsm⟩ := hfacts ms hms1 hms2 hms3
    generalize eplan cs ms = pl at l1 l20 hok hbad hlf hel hef hrs hlast hsmall hlens hsm
    repeat (wtm_at "e")
    refine evp_seq rfl (.seq _ _) ?_
    repeat (wtm_at "d")
    refine cap_len (.seq _ _) ?_
    rw [nD_len]
    repeat (wtm_at "d")
    have eM : ((cs.length : Nat) : Int) + 1 = ((cs.length + 1 : Nat) : Int) := by omega
    rw [eM]
    have hM1 : 1 ≤ cs.length + 1 := by omega
    have hM12 : cs.length + 1 ≤ 12 := by omega
    have hstp : (List.map Pl.stp pl).length = pl.length := by simp
    have hshw : Shw 200000 (.tup (List.map Pl.dd pl)) := shw_mono (shw_tup (n := 20) (shw_pl hok l20 hsm) (by rw [List.length_map]; exact l20)) (by decide)
    refine evp_call0 ?_
    repeat (wtm_at "d")
    refine ⟨rfl, _, _, .int, _, List.map Pl.stp pl, rfl, rfl, .tup _, stpAll_pl pl, by omega, by omega, fun h => ?_, fun M' hM' _ => ⟨fun _ => ?_, fun at' h => ?_⟩⟩
    · rw [show okMany (slotPy (toArg (.dat (.int ((cs.length + 1 : Nat) : Int))))) = true from okMany_nat hM1 hM12] at h; cases h
    rotate_left
    · have hM' : M' = ((cs.length + 1 : Nat) : Int) := (DD.int.inj hM').symm
      subst hM'
      rw [hbad] at h; cases h
    have hM' : M' = ((cs.length + 1 : Nat) : Int) := (DD.int.inj hM').symm
    subst hM'
    rw [edd]
    repeat (wtm_at "d")
    refine cap_reprG (n := 2) (pl_dds pl) (by decide) hshw (by decide) ?_
    repeat (wtm_at "d")
    refine cap_reprG (n := 2) (pl_dds pl) (by decide) hshw (by decide) ?_
    refine opp_neS ?_
    rw [decide_eq_true rfl]
    refine ⟨_, rfl, fun h => Bool.noConfusion h, fun _ => ?_⟩
    repeat (wtm_at "d")
    refine ⟨rfl, _, pl, rfl, .tup _, hok, l20, ?_⟩
    rw [hlf]
    repeat (wtm_at "d")
    refine ⟨fun h => Bool.noConfusion h, fun _ => ?_⟩
    repeat (wtm_at "d")
    refine evp_call0 ?_
    repeat (wtm_at "d")
    refine ⟨rfl, _, _, .int, _, List.map Pl.stp pl, rfl, rfl, .tup _, stpAll_pl pl, by omega, by omega, fun h => ?_, fun M' hM' _ => ⟨fun at' h => ?_, fun _ => ⟨pl, els, rfl, hel, ?_⟩⟩⟩
    · rw [show okMany (slotPy (toArg (.dat (.int ((cs.length + 1 : Nat) : Int))))) = true from okMany_nat hM1 hM12] at h; cases h
    · have hM' : M' = ((cs.length + 1 : Nat) : Int) := (DD.int.inj hM').symm
      subst hM'
      rw [hbad] at h; cases h
    rw [hef]
    repeat (wtm_at "d")
    refine ⟨fun h => Bool.noConfusion h, fun _ => ?_⟩
    repeat (wtm_at "e")
    refine ⟨rfl, cs.length + 1, _, pl, rs, rfl, .tup _, by omega, by omega, hrs, ?_⟩
    repeat (wtm_at "e")
    refine opp_ix (i := -1) (.lst _) (atI_last (by rw [List.getLast?_map, hlast]; rfl)) ?_
    repeat (wtm_at "d")
    refine evp_new (evf_lstD ?_)
    repeat (wtm_at "d")
    refine evp_seq rfl (.seq _ _) ?_
    repeat (wtm_at "d")
    refine cap_sumU (ns := cs.map fun c : Nat => (c : Int)) (by rw [List.map_map]; exact .seq _ _) ?_
    rw [sum_cast]
    repeat (wtm_at "d")
    refine ⟨_, rfl, by show 1 ≤ 100000; decide, ?_⟩
    repeat (wtm_at "d")
    refine evp_seq rfl (.seq _ _) ?_
    repeat (wtm_at "d")
    refine cap_new (caf_list (.seq _ _) ?_)
    refine opp_new (opf_cat (.lst _) (.lst _) (by rw [nD_len]; show 1 + cs.length ≤ _; omega) ?_)
    have elast : rowL ((1 - (cs.sum : Int)) :: cs.map fun c : Nat => (c : Int)) = .lst ([DD.int (1 - (cs.sum : Int))] ++ nD cs) := by
      show DD.lst (.int _ :: (cs.map fun c : Nat => (c : Int)).map DD.int) = _
      rw [← nD_ints]; rfl
    have plast : Dl.pl 1 (.lst ([DD.int (1 - (cs.sum : Int))] ++ nD cs)) = true := by
      rw [← elast]; exact pl_ints _
    rw [elast]
    refine opp_ne (n := 1) (by decide) (nn _) (nn _) plast plast fun q hq => ?_
    have hq : q = false := by
      cases q with
      | false => rfl
      | true => exact absurd rfl (hq.mp rfl)
    subst hq
    refine ⟨_, rfl, fun h => Bool.noConfusion h, fun _ => ?_⟩
    have hrsl : rs.length = pl.length := hrs.1
    have hshr : Shw 480603 (.tup (rs.map rowD)) := shw_mono (shw_tup (B := 11547) (n := 20) (fun d hd => by
      obtain ⟨r, hr, rfl⟩ := List.mem_map.mp hd
      refine shw_mono (shw_tup (B := 1922) (n := 6) (fun x hx => ?_) ?_) (by decide)
      · obtain ⟨z, hz, rfl⟩ := List.mem_map.mp hx
        exact shw_int (hsmall r hr z hz)
      · obtain ⟨j, hj, e⟩ := List.getElem_of_mem hr
        have := hrs.len (i := j) (r := r) (by rw [List.getElem?_eq_getElem hj, e])
        rw [List.length_map]; omega) (by rw [List.length_map]; omega)) (by decide)
    repeat (wtm_at "d")
    refine ⟨rfl, cs.length + 1, _, pl, rs, rfl, .tup _, by omega, by omega, by omega, by omega, hbad, hrs, ?_⟩
    repeat (wtm_at "d")
    refine cap_reprG (n := 2) (pl_rows rs) (by decide) hshr (by decide) ?_
    repeat (wtm_at "d")
    refine evp_new (evf_map (wip_seq ?_))
    repeat (wtm_at "d")
    refine ⟨_, .lst _, by rw [List.length_map]; omega, fun j => rowD (rs.getD j []), fun j hj => ?_, ?_⟩
    · have hj : j < rs.length := by simpa using hj
      rw [items_mapg (x := rs.getD j []) (by rw [List.getD_eq_getElem?_getD, List.getElem?_eq_getElem hj]; rfl)]
      refine gap_name (by decide) ?_
      repeat (wtm_at "d")
      exact cap_tuple (.lst _) rfl
    have erows : (List.range (rs.map rowL).length).map (fun j => rowD (rs.getD j [])) = rs.map rowD := by
      rw [List.length_map]; exact range_mapf rowD rs
    rw [erows]
    repeat (wtm_at "d")
    refine cap_tuple (.lst _) ?_
    repeat (wtm_at "d")
    refine cap_reprG (n := 2) (pl_rows rs) (by decide) hshr (by decide) ?_
    refine opp_neS ?_
    rw [decide_eq_true rfl]
    refine ⟨_, rfl, fun h => Bool.noConfusion h, fun _ => ?_⟩
    repeat (wtm_at "d")
    refine sd_asgT (vs := [5, 6]) ?_
    repeat (wtm_at "d")
    refine evp_callL0 hM hJ ?_
    repeat (wtm_at "d")
    refine ⟨rfl, _, rfl, by decide, by decide, fun letter hl0 hl1 => ?_⟩
    repeat (wtm_at "d")
    refine evp_callL0 hM hJ ?_
    repeat (wtm_at "d")
    refine ⟨rfl, _, rfl, by decide, by decide, fun rb hb0 hb1 => ?_⟩
    obtain ⟨base, rfl⟩ : ∃ k : Nat, rb = (k : Int) := ⟨rb.toNat, by omega⟩
    have hb3 : base ≤ 3 := by omega
    repeat (wtm_at "d")
    refine ⟨_, rfl, by show 2 ≤ 100000; decide, gap_tup rfl (gas_cons (gap_name (by decide) (gas_cons (gap_name (by decide) (gas_nil ?_)))))⟩
    repeat (wtm_at "e")
    refine evp_new (evf_lc (wip_seq ?_))
    refine evp_seq rfl (.seq _ _) ?_
    refine ⟨_, .seq _ _, by rw [nD_len]; omega, fun j acc => ∃ ms : List Nat, acc = nD ms ∧ ms.length = j ∧ ∀ m ∈ ms, m ≤ 3, ⟨[], rfl, rfl, fun m hm => by cases hm⟩, fun j acc hj hI => gap_name (by decide) (evt_yes ⟨fun _ => ?_, fun h => Bool.noConfusion h⟩), fun acc hI => ?_⟩
    · obtain ⟨ms, rfl, hml, hm3⟩ := hI
      refine evp_callL0 hM hJ ?_
      repeat (wtm_at "d")
      refine ⟨rfl, _, rfl, by decide, by decide, fun r h0 h1 => ?_⟩
      obtain ⟨k, rfl⟩ : ∃ k : Nat, r = (k : Int) := ⟨r.toNat, by omega⟩
      refine ⟨_, rfl, ms ++ [k], by rw [nD_app]; rfl, by rw [List.length_append, hml]; rfl, fun m hm => ?_⟩
      rcases List.mem_append.mp hm with z | z
      · exact hm3 m z
      · have : m = k := by simpa using z
        omega
    obtain ⟨ms, rfl, hml, hm3⟩ := hI
    rw [nD_len] at hml
    obtain ⟨ls, hls, hll⟩ := hlens base ms hml hb3 hm3
    have hrep : ∀ {k : Int} {P : Slot → Prop}, 0 ≤ k → k ≤ 1000 → P (.dat (txt letter k.toNat)) → OpP W (rRepU K) (.dat (.tup [.int letter])) (.dat (.int k)) P := fun {k P} k0 k1 p =>
      opp_rep (by simp) (by show 1 ≤ 1000; decide) k0 k1 (by rw [rep_txt]; exact p)
    repeat (wtm_at "e")
    refine evp_new (evf_lstD ?_)
    repeat (wtm_at "d")
    refine ⟨_, rfl, by show 1 ≤ 100000; decide, ?_⟩
    repeat (wtm_at "d")
    refine hrep (by omega) (by omega) ?_
    repeat (wtm_at "d")
    refine ⟨_, rfl, by show 1 ≤ 100000; decide, ?_⟩
    refine evp_new (evf_map (wip_seq ?_))
    repeat (wtm_at "d")
    have gm : ∀ {j : Nat}, j < ms.length → ms.getD j 0 ≤ 3 := fun {j} hj => hm3 _ (List.mem_of_getElem? (get_getD hj))
    refine ⟨_, .lst _, by rw [nD_len]; omega, fun j => txt letter (base + ms.getD j 0), fun j hj => ?_, ?_⟩
    · have hj : j < ms.length := by simpa [nD] using hj
      have := gm hj
      rw [show itemsOf (nD ms) j = .int ((ms.getD j 0 : Nat) : Int) from items_mapg (get_getD hj)]
      refine gap_name (by decide) ?_
      repeat (wtm_at "d")
      refine ⟨_, rfl, by show 1 ≤ 100000; decide, ?_⟩
      repeat (wtm_at "d")
      refine hrep (by omega) (by omega) ?_
      rw [show ((base : Int) + ((ms.getD j 0 : Nat) : Int)).toNat = base + ms.getD j 0 by omega]
    rw [nD_len, range_getD (f := fun m => txt letter (base + m))]
    refine opp_new (opf_cat (.lst _) (.lst _) (by rw [List.length_map]; show 1 + ms.length ≤ _; omega) ?_)
    have etx : [txt letter ((base : Nat) : Int).toNat] ++ ms.map (fun m => txt letter (base + m)) = (base :: ms.map fun m => base + m).map (txt letter) := by
      rw [Int.toNat_natCast, List.map_cons, List.map_map]; rfl
    rw [etx]
    repeat (wtm_at "e")
    refine evp_new (evf_map (wip_zip ?_))
    repeat (wtm_at "d")
    refine evp_seq rfl (.seq _ _) ?_
    repeat (wtm_at "d")
    refine ⟨_, _, _, _, rfl, .lst _, .seq _ _, by rw [nD_len, nD_len]; exact hml, by rw [nD_len]; omega, fun j => .int (((ms.getD j 0 * cs.getD j 0 : Nat) : Nat) : Int), fun j hj => ?_, ?_⟩
    · have hj : j < ms.length := by simpa [nD] using hj
      show GaP W _ _ (.dat (.tup [itemsOf (nD ms) j, itemsOf (nD cs) j])) _ _
      rw [show itemsOf (nD ms) j = .int ((ms.getD j 0 : Nat) : Int) from items_mapg (get_getD hj), show itemsOf (nD cs) j = .int ((cs.getD j 0 : Nat) : Int) from items_mapg (get_getD (by omega))]
      refine gap_tup rfl (gas_cons (gap_name (by decide) (gas_cons (gap_name (by decide) (gas_nil ?_)))))
      repeat (wtm_at "d")
      have := gm hj
      refine opp_mul (.inl ⟨by omega, by omega⟩) ?_
      rw [← Int.natCast_mul]
    have ezip : (List.range (nD ms).length).map (fun j => DD.int (((ms.getD j 0 * cs.getD j 0 : Nat) : Nat) : Int)) = ((((ms.zip cs).map fun p => p.1 * p.2)).map fun k : Nat => (k : Int)).map DD.int := by
      rw [nD_len, List.map_map, List.map_map]
      apply List.ext_getElem
      · simp [hml]
      · intro j h1 h2
        have a1 : j < ms.length := by simpa using h1
        have a2 : j < cs.length := by omega
        simp [List.getD_eq_getElem?_getD, List.getElem?_eq_getElem a1, List.getElem?_eq_getElem a2]
    rw [ezip]
    repeat (wtm_at "d")
    refine cap_sumU (ns := ((ms.zip cs).map fun p => p.1 * p.2).map fun k : Nat => (k : Int)) (.lst _) ?_
    rw [sum_cast]
    have hdot : dotS ms cs ≤ 300 := by
      have hmem : base + dotS ms cs ∈ ls := List.mem_of_getLast? hll
      have := hls.2.1 _ hmem
      omega
    repeat (wtm_at "d")
    refine ⟨rfl, _, _, letter, base :: ms.map (fun m => base + m), pl, _, ls, rfl, .lst _, ⟨hl0, hl1⟩, fun n hn => ?_, by simp, by simp; omega, .tup _, stpAll_pl pl, l1, l20, ?_, hls, ?_⟩
    · rcases List.mem_cons.mp hn with rfl | hn
      · omega
      · obtain ⟨m, hm, rfl⟩ := List.mem_map.mp hn
        have := hm3 m hm
        omega
    · rw [show (base :: ms.map fun m => base + m).length = cs.length + 1 by simp [hml]]
      exact hbad
    repeat (wtm_at "d")
    refine opp_ix (i := -1) (.tup _) (atI_last (by rw [List.getLast?_map, hll]; rfl)) ?_
    repeat (wtm_at "d")
    refine ⟨_, rfl, by show 1 ≤ 100000; decide, ?_⟩
    repeat (wtm_at "d")
    have hsd : ((((ms.zip cs).map fun p => p.1 * p.2).sum : Nat) : Int) = ((dotS ms cs : Nat) : Int) := rfl
    refine hrep (by omega) (by rw [hsd]; omega) ?_
    rw [show ((base : Int) + ((((ms.zip cs).map fun p => p.1 * p.2).sum : Nat) : Int)).toNat = base + dotS ms cs by rw [hsd]; omega]
    have ptx : ∀ n, Dl.pl 1 (txt letter n) = true := fun n => by
      show ((List.replicate n (DD.int letter)).all fun d => Dl.pl 0 d) = true
      rw [List.all_eq_true]
      intro d hd
      rw [(List.mem_replicate.mp hd).2]; rfl
    refine opp_eq (n := 1) (by decide) (nn _) (nn _) (ptx _) (ptx _) fun q hq => ?_
    have hq : q = true := hq.mpr rfl
    subst hq
    exact ⟨_, rfl, hR⟩
end Dl

set_option Elab.async false
set_option linter.all false
set_option maxRecDepth 100000
set_option maxHeartbeats 1000000
/-! M1: the plain laws of plans: elders by keys and by rows, faults, counts that are kept. -/
namespace Dl
open PySem L2
/-! ### the keys of dicts that are filled -/
theorem putK_keys1 {kvs : List (List Key × V)} {k : List Key} {v : V} (h : k ∈ kvs.map (·.1)) : (putK kvs k v).map (·.1) = kvs.map (·.1) := by
  unfold putK
  obtain ⟨p, hp, e⟩ := List.mem_map.mp h
  have : (kvs.any fun kv => decide (kv.1 = k)) = true := List.any_eq_true.mpr ⟨p, hp, decide_eq_true e⟩
  rw [if_pos this, List.map_map]
  apply List.map_congr_left
  intro q _
  show (if q.1 = k then (q.1, v) else q).1 = q.1
  split <;> rfl
theorem putK_keys2 {kvs : List (List Key × V)} {k : List Key} {v : V} (h : ¬ k ∈ kvs.map (·.1)) : (putK kvs k v).map (·.1) = kvs.map (·.1) ++ [k] := by
  unfold putK
  have : ¬ (kvs.any fun kv => decide (kv.1 = k)) = true := fun z => by
    obtain ⟨p, hp, e⟩ := List.any_eq_true.mp z
    exact h (List.mem_map.mpr ⟨p, hp, of_decide_eq_true e⟩)
  rw [if_neg this, List.map_append]; rfl
theorem putAll_keys {l : List (List Key)} : ∀ {kvs : List (List Key × V)}, (kvs.map (·.1)).Nodup → ((putAll kvs l).map (·.1)).Nodup ∧ ∀ k, k ∈ (putAll kvs l).map (·.1) ↔ k ∈ kvs.map (·.1) ∨ k ∈ l := by
  induction l with
  | nil => intro kvs h; exact ⟨h, fun k => by simp [putAll]⟩
  | cons a l ih =>
    intro kvs h
    by_cases hm : a ∈ kvs.map (·.1)
    · have h1 : ((putK kvs a (.bl true)).map (·.1)).Nodup := by rw [putK_keys1 hm]; exact h
      obtain ⟨i1, i2⟩ := ih (kvs := putK kvs a (.bl true)) h1
      refine ⟨i1, fun k => (i2 k).trans ?_⟩
      rw [putK_keys1 hm]
      simp only [List.mem_cons]
      exact ⟨fun z => z.elim .inl (fun z => .inr (.inr z)), fun z => z.elim .inl (fun z => z.elim (fun e => .inl (by rw [e]; exact hm)) .inr)⟩
    · have h1 : ((putK kvs a (.bl true)).map (·.1)).Nodup := by
        rw [putK_keys2 hm]
        refine List.nodup_append.mpr ⟨h, by simp, fun x hx y hy e => ?_⟩
        have : y = a := by simpa using hy
        exact hm (by rw [← this, ← e]; exact hx)
      obtain ⟨i1, i2⟩ := ih (kvs := putK kvs a (.bl true)) h1
      refine ⟨i1, fun k => (i2 k).trans ?_⟩
      rw [putK_keys2 hm]
      simp only [List.mem_append, List.mem_cons, List.not_mem_nil, or_false, or_assoc]
theorem hasE_keys {e : Eld} {k : List Key} : hasE e k = true ↔ k ∈ e.map (·.1) := by
  unfold hasE
  rw [← valV_any, List.any_eq_true]
  constructor
  · rintro ⟨p, hp, h⟩
    exact List.mem_map.mpr ⟨p, hp, of_decide_eq_true h⟩
  · intro h
    obtain ⟨p, hp, h⟩ := List.mem_map.mp h
    exact ⟨p, hp, decide_eq_true h⟩
theorem sub_len {α : Type} [DecidableEq α] : ∀ {l m : List α}, l.Nodup → (∀ x ∈ l, x ∈ m) → l.length ≤ m.length
  | [], _, _, _ => Nat.zero_le _
  | a :: l, m, hn, h => by
    have hn' := List.nodup_cons.mp hn
    have ha := h a List.mem_cons_self
    have := sub_len (l := l) (m := m.erase a) hn'.2 fun x hx => by
      have hne : x ≠ a := fun z => hn'.1 (by rw [← z]; exact hx)
      exact (List.mem_erase_of_ne hne).mpr (h x (List.mem_cons_of_mem _ hx))
    rw [List.length_erase_of_mem ha] at this
    have h0 : 0 < m.length := List.length_pos_of_mem ha
    rw [List.length_cons]; omega
/-! ### the elders dicts -/
def eldAt (pl : List Pl) (es : List Eld) : Pl → Eld
  | .v n => eldV n
  | .m b c y => putAll [] (eldF (keysP pl) es b ++ (eldF (keysP pl) es c ++ eldF (keysP pl) es y))
def eldL (pl : List Pl) : Nat → List Eld
  | 0 => []
  | i + 1 => eldL pl i ++ [eldAt pl (eldL pl i) (gP pl i)]
theorem eldL_len {pl : List Pl} : ∀ {i : Nat}, (eldL pl i).length = i
  | 0 => rfl
  | i + 1 => by rw [eldL, List.length_append, eldL_len]; rfl
theorem eldL_get {pl : List Pl} {j : Nat} : ∀ {i : Nat}, j < i → (eldL pl i)[j]? = some (eldAt pl (eldL pl j) (gP pl j))
  | 0, h => absurd h (Nat.not_lt_zero _)
  | i + 1, h => by
    rw [eldL]
    by_cases hj : j < i
    · rw [List.getElem?_append_left (by rw [eldL_len]; exact hj)]
      exact eldL_get hj
    · have : j = i := by omega
      subst this
      rw [List.getElem?_append_right (by rw [eldL_len]; exact Nat.le_refl _), eldL_len]
      simp
theorem eldL_getD {pl : List Pl} {i j k : Nat} (h : j < i) (h2 : j < k) : (eldL pl i).getD j [] = (eldL pl k).getD j [] := by
  rw [List.getD_eq_getElem?_getD, List.getD_eq_getElem?_getD, eldL_get h, eldL_get h2]
theorem lRows_get {pl : List Pl} {j : Nat} : ∀ {i : Nat}, j < i → (lRows pl i)[j]? = some (rowAt pl (lRows pl j) j (gP pl j))
  | 0, h => absurd h (Nat.not_lt_zero _)
  | i + 1, h => by
    rw [lRows]
    by_cases hj : j < i
    · rw [List.getElem?_append_left (by rw [lRows_len]; exact hj)]
      exact lRows_get hj
    · have : j = i := by omega
      subst this
      rw [List.getElem?_append_right (by rw [lRows_len]; exact Nat.le_refl _), lRows_len]
      simp
theorem lRows_getD {pl : List Pl} {i j k : Nat} (h : j < i) (h2 : j < k) : (lRows pl i).getD j [] = (lRows pl k).getD j [] := by
  rw [List.getD_eq_getElem?_getD, List.getD_eq_getElem?_getD, lRows_get h, lRows_get h2]
theorem kAt_eq {pl : List Pl} {j : Nat} (h : j < pl.length) : kAt pl j = keyP j (gP pl j) := by
  have e := keysP_get (gP_get h)
  rw [kAt_get h] at e
  exact Option.some.inj e
/-- κ is the key of j or among the keys of its elders -/
def Has (pl : List Pl) (j : Nat) (k : List Key) : Prop := kAt pl j = k ∨ hasE ((eldL pl pl.length).getD j []) k = true
theorem eldF_mem {pl : List Pl} {i j : Nat} {k : List Key} (h : j < i) (hj : j < pl.length) : k ∈ eldF (keysP pl) (eldL pl i) j ↔ Has pl j k := by
  unfold eldF Has
  rw [List.mem_cons, eldL_getD (k := pl.length) h hj, hasE_keys]
  exact or_congr ⟨fun z => z.symm, fun z => z.symm⟩ Iff.rfl
theorem has_v {pl : List Pl} {j n : Nat} {k : List Key} (hj : j < pl.length) (hp : gP pl j = .v n) : Has pl j k ↔ k = kver n ∨ (0 < n ∧ k = kver 0) := by
  unfold Has
  rw [kAt_eq hj, hp, List.getD_eq_getElem?_getD, eldL_get hj, hp]
  show kver n = k ∨ hasE (eldV n) k = true ↔ _
  rw [hasE_keys]
  unfold eldV
  by_cases hn : 0 < n
  · rw [if_pos hn]
    simp only [List.map_cons, List.map_nil, List.mem_singleton]
    exact ⟨fun z => z.elim (fun e => .inl e.symm) fun e => .inr ⟨hn, e⟩, fun z => z.elim (fun e => .inl e.symm) fun e => .inr e.2⟩
  · rw [if_neg hn]
    simp only [List.map_nil, List.not_mem_nil, or_false]
    exact ⟨fun e => .inl e.symm, fun z => z.elim (fun e => e.symm) fun e => absurd e.1 hn⟩
theorem has_m {pl : List Pl} {j b c y : Nat} {k : List Key} (hok : PlRef pl) (hj : j < pl.length) (hp : gP pl j = .m b c y) : Has pl j k ↔ k = kmrg j ∨ Has pl b k ∨ Has pl c k ∨ Has pl y k := by
  obtain ⟨h1, h2, h3⟩ : b < j ∧ c < j ∧ y < j := by
    have := hok j _ (gP_get hj)
    rw [hp] at this; exact this
  have e : Has pl j k ↔ kmrg j = k ∨ hasE (eldAt pl (eldL pl j) (.m b c y)) k = true := by
    unfold Has
    rw [kAt_eq hj, hp, List.getD_eq_getElem?_getD, eldL_get hj, hp]; rfl
  rw [e, hasE_keys]
  have := (putAll_keys (l := eldF (keysP pl) (eldL pl j) b ++ (eldF (keysP pl) (eldL pl j) c ++ eldF (keysP pl) (eldL pl j) y)) (kvs := []) (by simp)).2 k
  show kmrg j = k ∨ k ∈ (putAll [] _).map (·.1) ↔ _
  rw [this, List.mem_append, List.mem_append, eldF_mem h1 (by omega), eldF_mem h2 (by omega), eldF_mem h3 (by omega)]
  simp only [List.map_nil, List.not_mem_nil, false_or]
  exact or_congr ⟨fun z => z.symm, fun z => z.symm⟩ Iff.rfl
end Dl

set_option Elab.async false
set_option linter.all false
set_option maxRecDepth 100000
set_option maxHeartbeats 1000000
/-! M2: elder_fault's fault is the law's. -/
namespace Dl
open PySem L2
theorem ver_mrg {n i : Nat} : kver n ≠ kmrg i := fun z => by
  have := List.cons.inj z
  exact absurd (Sum.inr.inj this.1) (by decide +kernel)
theorem kver_inj {n m : Nat} (h : kver n = kver m) : n = m := by
  have h := (List.cons.inj (List.cons.inj h).2).1
  exact Int.ofNat.inj (Sum.inl.inj h)
theorem kmrg_inj {n m : Nat} (h : kmrg n = kmrg m) : n = m := by
  have h := (List.cons.inj (List.cons.inj h).2).1
  exact Int.ofNat.inj (Sum.inl.inj h)
theorem same_key {pl : List Pl} {k b : Nat} (hk : k < pl.length) (hb : b < pl.length) : kAt pl k = kAt pl b ↔ k = b ∨ (isV (gP pl k) = true ∧ gP pl k = gP pl b) := by
  rw [kAt_eq hk, kAt_eq hb]
  cases e1 : gP pl k with
  | v n =>
    cases e2 : gP pl b with
    | v m =>
      refine ⟨fun h => .inr ⟨rfl, by rw [kver_inj h]⟩, fun h => ?_⟩
      rcases h with h | ⟨_, h⟩
      · subst h
        rw [e1] at e2
        have := Pl.v.inj e2
        rw [this]
      · rw [Pl.v.inj h]; rfl
    | m b' c y =>
      refine ⟨fun h => absurd h ver_mrg, fun h => ?_⟩
      rcases h with h | ⟨_, h⟩
      · subst h; rw [e1] at e2; cases e2
      · cases h
  | m b' c y =>
    cases e2 : gP pl b with
    | v m =>
      refine ⟨fun h => absurd h.symm ver_mrg, fun h => ?_⟩
      rcases h with h | ⟨h, _⟩
      · subst h; rw [e1] at e2; cases e2
      · cases h
    | m b2 c2 y2 =>
      refine ⟨fun h => .inl (kmrg_inj h), fun h => ?_⟩
      rcases h with h | ⟨h, _⟩
      · subst h; rfl
      · cases h
theorem has0 {pl : List Pl} (hok : PlRef pl) : ∀ (j : Nat), j < pl.length → Has pl j (kver 0) := fun j => by
  induction j using Nat.strongRecOn with
  | ind j ih =>
    intro hj
    cases e : gP pl j with
    | v n =>
      rw [has_v hj e]
      rcases Nat.eq_zero_or_pos n with h | h
      · exact .inl (by rw [h])
      · exact .inr ⟨h, rfl⟩
    | m b c y =>
      rw [has_m hok hj e]
      have := hok j _ (gP_get hj)
      rw [e] at this
      exact .inr (.inl (ih b this.1 (by omega)))
theorem row_v {pl : List Pl} {j n : Nat} (hj : j < pl.length) (e : gP pl j = .v n) {k : Nat} : k ∈ (rowsOf pl).getD j [] ↔ k = j ∨ (k < j ∧ gP pl k = .v n) ∨ (0 < n ∧ k < j ∧ gP pl k = .v 0) := by
  unfold rowsOf
  rw [List.getD_eq_getElem?_getD, lRows_get hj, e]
  show k ∈ ([j] ++ sameAt pl (toldAt pl j) (.v n)) ++ (if 0 < n then sameAt pl (toldAt pl j) (.v 0) else []) ↔ _
  have sm : ∀ q, k ∈ sameAt pl (toldAt pl j) (.v q) ↔ k < j ∧ gP pl k = .v q := fun q => by
    unfold sameAt toldAt
    rw [List.mem_filter, List.mem_filter, List.mem_range]
    exact ⟨fun z => ⟨z.1.1, of_decide_eq_true z.2⟩, fun z => ⟨⟨z.1, by rw [z.2]; rfl⟩, decide_eq_true z.2⟩⟩
  rw [List.mem_append, List.mem_append, List.mem_singleton, sm]
  by_cases hn : 0 < n
  · rw [if_pos hn, sm]
    simp only [hn, true_and, or_assoc]
  · rw [if_neg hn]
    simp only [hn, false_and, List.not_mem_nil, or_false]
theorem row_m {pl : List Pl} {j b c y : Nat} (hok : PlRef pl) (hj : j < pl.length) (e : gP pl j = .m b c y) {k : Nat} : k ∈ (rowsOf pl).getD j [] ↔ k = j ∨ k ∈ (rowsOf pl).getD b [] ∨ k ∈ (rowsOf pl).getD c [] ∨ k ∈ (rowsOf pl).getD y [] := by
  obtain ⟨h1, h2, h3⟩ : b < j ∧ c < j ∧ y < j := by
    have := hok j _ (gP_get hj)
    rw [e] at this; exact this
  have r : ∀ {x : Nat}, x < j → (lRows pl j).getD x [] = (rowsOf pl).getD x [] := fun {x} hx => lRows_getD hx (by omega)
  have e0 : (rowsOf pl).getD j [] = rowAt pl (lRows pl j) j (.m b c y) := by
    unfold rowsOf
    rw [List.getD_eq_getElem?_getD, lRows_get hj, e]; rfl
  rw [e0]
  show k ∈ addNew (addNew (addNew [j] ((lRows pl j).getD b [])) ((lRows pl j).getD c [])) ((lRows pl j).getD y []) ↔ _
  rw [mem_addNew, mem_addNew, mem_addNew, List.mem_singleton, r h1, r h2, r h3]
  simp only [or_assoc]
theorem row_lt {pl : List Pl} {j k : Nat} (hj : j < pl.length) (h : k ∈ (rowsOf pl).getD j []) : k < pl.length := by
  have hl : (rowsOf pl).length = pl.length := lRows_len
  rw [List.getD_eq_getElem?_getD, List.getElem?_eq_getElem (by rw [hl]; exact hj)] at h
  exact (lRows_ok _ (List.getElem_mem (by rw [lRows_len]; exact hj))).2 k h
/-- the elders by keys are those of the rows -/
theorem has_row {pl : List Pl} (hok : PlRef pl) {κ : List Key} (hκ : κ ≠ kver 0) : ∀ (c : Nat), c < pl.length → (Has pl c κ ↔ ∃ k ∈ (rowsOf pl).getD c [], kAt pl k = κ) := fun c => by
  induction c using Nat.strongRecOn with
  | ind c ih =>
    intro hc
    cases e : gP pl c with
    | v n =>
      rw [has_v hc e]
      have kc : kAt pl c = kver n := by rw [kAt_eq hc, e]; rfl
      refine ⟨fun h => ?_, fun ⟨k, hk, hkey⟩ => ?_⟩
      · rcases h with h | ⟨_, h⟩
        · exact ⟨c, (row_v hc e).mpr (.inl rfl), by rw [kc, h]⟩
        · exact absurd h hκ
      · rcases (row_v hc e).mp hk with rfl | ⟨h1, h2⟩ | ⟨_, h1, h2⟩
        · exact .inl (by rw [← hkey, kc])
        · rw [kAt_eq (by omega), h2] at hkey
          exact .inl hkey.symm
        · rw [kAt_eq (by omega), h2] at hkey
          exact absurd hkey.symm hκ
    | m b c' y =>
      obtain ⟨h1, h2, h3⟩ : b < c ∧ c' < c ∧ y < c := by
        have := hok c _ (gP_get hc)
        rw [e] at this; exact this
      have kc : kAt pl c = kmrg c := by rw [kAt_eq hc, e]; rfl
      rw [has_m hok hc e, ih b h1 (by omega), ih c' h2 (by omega), ih y h3 (by omega)]
      refine ⟨fun h => ?_, fun ⟨k, hk, hkey⟩ => ?_⟩
      · rcases h with h | ⟨k, hk, h⟩ | ⟨k, hk, h⟩ | ⟨k, hk, h⟩
        · exact ⟨c, (row_m hok hc e).mpr (.inl rfl), by rw [kc, h]⟩
        · exact ⟨k, (row_m hok hc e).mpr (.inr (.inl hk)), h⟩
        · exact ⟨k, (row_m hok hc e).mpr (.inr (.inr (.inl hk))), h⟩
        · exact ⟨k, (row_m hok hc e).mpr (.inr (.inr (.inr hk))), h⟩
      · rcases (row_m hok hc e).mp hk with rfl | hk | hk | hk
        · exact .inl (by rw [← hkey, kc])
        · exact .inr (.inl ⟨k, hk, hkey⟩)
        · exact .inr (.inr (.inl ⟨k, hk, hkey⟩))
        · exact .inr (.inr (.inr ⟨k, hk, hkey⟩))
theorem kin_eq {pl : List Pl} (hok : PlRef pl) {b c : Nat} (hb : b < pl.length) (hc : c < pl.length) : kin1 pl (eldL pl pl.length) b c = kinB pl (rowsOf pl) b c := by
  have h1 : kin1 pl (eldL pl pl.length) b c = true ↔ Has pl c (kAt pl b) := by
    unfold kin1 Has
    rw [Bool.or_eq_true, decide_eq_true_iff]
    exact or_congr ⟨fun z => z.symm, fun z => z.symm⟩ Iff.rfl
  refine Bool.eq_iff_iff.mpr (h1.trans ?_)
  unfold kinB
  rw [Bool.or_eq_true, decide_eq_true_iff]
  by_cases h0 : gP pl b = .v 0
  · have e : kAt pl b = kver 0 := by rw [kAt_eq hb, h0]; rfl
    rw [e]
    exact ⟨fun _ => .inl h0, fun _ => has0 hok c hc⟩
  · have hκ : kAt pl b ≠ kver 0 := fun z => by
      rw [kAt_eq hb] at z
      cases e : gP pl b with
      | v n => rw [e] at z h0; exact h0 (by rw [kver_inj z])
      | m b' c' y => rw [e] at z; exact ver_mrg z.symm
    rw [has_row hok hκ c hc]
    unfold sameB
    rw [List.any_eq_true]
    refine ⟨fun ⟨k, hk, hkey⟩ => .inr ⟨k, hk, ?_⟩, fun h => ?_⟩
    · have := (same_key (row_lt hc hk) hb).mp hkey
      rw [Bool.or_eq_true, Bool.and_eq_true, decide_eq_true_iff, decide_eq_true_iff]
      exact this
    · rcases h with h | ⟨k, hk, h⟩
      · exact absurd h h0
      · rw [Bool.or_eq_true, Bool.and_eq_true, decide_eq_true_iff, decide_eq_true_iff] at h
        exact ⟨k, hk, (same_key (row_lt hc hk) hb).mpr h⟩
theorem fault_eq {pl : List Pl} (hok : PlRef pl) : faultAt pl (eldL pl pl.length) 0 pl = lfAt pl (rowsOf pl) 0 pl := by
  have main : ∀ (r : List Pl) (i : Nat), (∀ j p, r[j]? = some p → pl[i + j]? = some p) → faultAt pl (eldL pl pl.length) i r = lfAt pl (rowsOf pl) i r := by
    intro r
    induction r with
    | nil => intro i _; rfl
    | cons p r ih =>
      intro i h
      have hp := h 0 p rfl
      have hr := ih (i + 1) fun j q e => by
        have := h (j + 1) q (by simpa using e)
        rw [show i + 1 + j = i + (j + 1) by omega]; exact this
      have hi : i < pl.length := by
        have := (List.getElem?_eq_some_iff.mp hp).1
        omega
      cases p with
      | v n =>
        show (if true = true then _ else _) = _
        rw [if_pos rfl]
        exact hr
      | m b c y =>
        obtain ⟨h1, h2, h3⟩ := hok i _ (by simpa using hp)
        show (if kin1 pl (eldL pl pl.length) b c && kin1 pl (eldL pl pl.length) b y then _ else some i) = (if kinB pl (rowsOf pl) b c && kinB pl (rowsOf pl) b y then _ else some i)
        rw [kin_eq hok (by omega) (by omega), kin_eq hok (by omega) (by omega), hr]
  exact main pl 0 fun j p e => by simpa using e
theorem eld_keys {pl : List Pl} (hok : PlRef pl) : ∀ (j : Nat), j < pl.length → ∀ k, Has pl j k → k ∈ kver 0 :: keysP pl := fun j => by
  induction j using Nat.strongRecOn with
  | ind j ih =>
    intro hj k hk
    have own : kAt pl j ∈ keysP pl := List.mem_of_getElem? (kAt_get hj)
    cases e : gP pl j with
    | v n =>
      rcases (has_v hj e).mp hk with h | ⟨_, h⟩
      · rw [kAt_eq hj, e] at own
        rw [h]; exact List.mem_cons_of_mem _ own
      · rw [h]; exact List.mem_cons_self
    | m b c y =>
      obtain ⟨h1, h2, h3⟩ : b < j ∧ c < j ∧ y < j := by
        have := hok j _ (gP_get hj)
        rw [e] at this; exact this
      rcases (has_m hok hj e).mp hk with h | h | h | h
      · rw [kAt_eq hj, e] at own
        rw [h]; exact List.mem_cons_of_mem _ own
      · exact ih b h1 (by omega) k h
      · exact ih c h2 (by omega) k h
      · exact ih y h3 (by omega) k h
theorem eld_ok {pl : List Pl} (hok : PlRef pl) (hl : pl.length ≤ 20) : EldOk pl (eldL pl pl.length) := by
  refine ⟨eldL_len, fun e he => ?_, fun i p hp => ?_⟩
  · obtain ⟨j, hj, ej⟩ := List.getElem_of_mem he
    rw [eldL_len] at hj
    have hg := eldL_get (pl := pl) hj
    rw [List.getElem?_eq_getElem (by rw [eldL_len]; exact hj), ej] at hg
    have hg := Option.some.inj hg
    have nd : (e.map (·.1)).Nodup := by
      rw [hg]
      cases gP pl j with
      | v n =>
        show ((eldV n).map (·.1)).Nodup
        unfold eldV
        split <;> simp
      | m b c y => exact (putAll_keys (kvs := []) (by simp)).1
    have := sub_len (m := kver 0 :: keysP pl) nd fun k hk => eld_keys hok j hj k (.inr (by
      rw [List.getD_eq_getElem?_getD, List.getElem?_eq_getElem (by rw [eldL_len]; exact hj)]
      show hasE ((eldL pl pl.length)[j]'_) k = true
      rw [ej]
      exact hasE_keys.mpr hk))
    rw [List.length_map, List.length_cons, keysP_len] at this
    omega
  · have hi : i < pl.length := (List.getElem?_eq_some_iff.mp hp).1
    have e : gP pl i = p := Option.some.inj ((gP_get hi).symm.trans hp)
    refine ⟨_, eldL_get hi, ?_⟩
    have href := hok i p hp
    rw [e]
    cases p with
    | v n => rfl
    | m b c y =>
      obtain ⟨h1, h2, h3⟩ := href
      refine ⟨h1, h2, h3, ?_⟩
      have r : ∀ {x : Nat}, x < i → eldF (keysP pl) (eldL pl i) x = eldF (keysP pl) (eldL pl pl.length) x := fun {x} hx => by
        unfold eldF
        rw [eldL_getD (k := pl.length) hx (by omega)]
      show putAll [] _ = putAll [] _
      rw [r h1, r h2, r h3]
end Dl

set_option Elab.async false
set_option linter.all false
set_option maxRecDepth 100000
set_option maxHeartbeats 1000000
/-! M3: the counts, and that whole elders take nothing back. -/
namespace Dl
open PySem L2
def cntAt (M : Nat) (rs : List (List Int)) : Pl → List Int
  | .v n => rowV M n
  | .m b c y => rowM M (rs.getD b []) (rs.getD c []) (rs.getD y [])
def cntL (M : Nat) (pl : List Pl) : Nat → List (List Int)
  | 0 => []
  | i + 1 => cntL M pl i ++ [cntAt M (cntL M pl i) (gP pl i)]
theorem cntL_len {M : Nat} {pl : List Pl} : ∀ {i : Nat}, (cntL M pl i).length = i
  | 0 => rfl
  | i + 1 => by rw [cntL, List.length_append, cntL_len]; rfl
theorem cntL_get {M : Nat} {pl : List Pl} {j : Nat} : ∀ {i : Nat}, j < i → (cntL M pl i)[j]? = some (cntAt M (cntL M pl j) (gP pl j))
  | 0, h => absurd h (Nat.not_lt_zero _)
  | i + 1, h => by
    rw [cntL]
    by_cases hj : j < i
    · rw [List.getElem?_append_left (by rw [cntL_len]; exact hj)]
      exact cntL_get hj
    · have : j = i := by omega
      subst this
      rw [List.getElem?_append_right (by rw [cntL_len]; exact Nat.le_refl _), cntL_len]
      simp
theorem cntL_getD {M : Nat} {pl : List Pl} {i j k : Nat} (h : j < i) (h2 : j < k) : (cntL M pl i).getD j [] = (cntL M pl k).getD j [] := by
  rw [List.getD_eq_getElem?_getD, List.getD_eq_getElem?_getD, cntL_get h, cntL_get h2]
theorem cntAt_len {M : Nat} {rs : List (List Int)} {p : Pl} : (cntAt M rs p).length = M := by
  cases p with
  | v n => show (rowV M n).length = M; simp [rowV]
  | m b c y => show (rowM M _ _ _).length = M; simp [rowM]
theorem rows_ok {M : Nat} {pl : List Pl} (hok : PlRef pl) : RowsOk M pl (cntL M pl pl.length) := by
  refine ⟨cntL_len, fun i p hp => ?_⟩
  have hi : i < pl.length := (List.getElem?_eq_some_iff.mp hp).1
  have e : gP pl i = p := Option.some.inj ((gP_get hi).symm.trans hp)
  refine ⟨_, cntL_get hi, cntAt_len, ?_⟩
  have href := hok i p hp
  rw [e]
  cases p with
  | v n => rfl
  | m b c y =>
    obtain ⟨h1, h2, h3⟩ := href
    have r : ∀ {x : Nat}, x < i → (cntL M pl pl.length)[x]? = some ((cntL M pl i).getD x []) := fun {x} hx => by
      rw [List.getD_eq_getElem?_getD, cntL_get hx, cntL_get (show x < pl.length by omega)]; rfl
    exact ⟨h1, h2, h3, _, _, _, r h1, r h2, r h3, rfl⟩
/-- a count -/
abbrev cZ (M : Nat) (pl : List Pl) (i j : Nat) : Int := gZ (cntL M pl pl.length) i j
theorem cZ_v {M : Nat} {pl : List Pl} {i j n : Nat} (hi : i < pl.length) (hj : j < M) (e : gP pl i = .v n) : cZ M pl i j = if j = n then 1 else 0 := by
  have e0 : (cntL M pl pl.length).getD i [] = rowV M n := by
    rw [List.getD_eq_getElem?_getD, cntL_get hi, e]; rfl
  unfold cZ gZ
  rw [e0]
  unfold rowV
  rw [List.getD_eq_getElem?_getD, List.getElem?_map, List.getElem?_range hj]; rfl
theorem cZ_m {M : Nat} {pl : List Pl} {i j b c y : Nat} (hok : PlRef pl) (hi : i < pl.length) (hj : j < M) (e : gP pl i = .m b c y) : cZ M pl i j = cZ M pl c j + cZ M pl y j - cZ M pl b j := by
  obtain ⟨h1, h2, h3⟩ : b < i ∧ c < i ∧ y < i := by
    have := hok i _ (gP_get hi)
    rw [e] at this; exact this
  have e0 : (cntL M pl pl.length).getD i [] = rowM M ((cntL M pl i).getD b []) ((cntL M pl i).getD c []) ((cntL M pl i).getD y []) := by
    rw [List.getD_eq_getElem?_getD, cntL_get hi, e]; rfl
  unfold cZ gZ
  rw [e0]
  unfold rowM
  rw [List.getD_eq_getElem?_getD, List.getElem?_map, List.getElem?_range hj, cntL_getD (k := pl.length) h1 (by omega), cntL_getD (k := pl.length) h2 (by omega), cntL_getD (k := pl.length) h3 (by omega)]; rfl
theorem lf_all {pl : List Pl} {rows : List (List Nat)} : ∀ {r : List Pl} {i : Nat}, lfAt pl rows i r = none → ∀ b c y, Pl.m b c y ∈ r → kinB pl rows b c = true ∧ kinB pl rows b y = true
  | [], _, _, b, c, y, h => by cases h
  | .v n :: r, i, hf, b, c, y, h => by
    rcases List.mem_cons.mp h with h | h
    · cases h
    · exact lf_all (r := r) (i := i + 1) hf b c y h
  | .m b' c' y' :: r, i, hf, b, c, y, h => by
    have hf : (if kinB pl rows b' c' && kinB pl rows b' y' then lfAt pl rows (i + 1) r else some i) = none := hf
    cases hk : (kinB pl rows b' c' && kinB pl rows b' y') with
    | false => rw [hk] at hf; cases hf
    | true =>
      rw [hk, if_pos rfl] at hf
      rcases List.mem_cons.mp h with h | h
      · obtain ⟨rfl, rfl, rfl⟩ := Pl.m.inj h
        rw [Bool.and_eq_true] at hk
        exact hk
      · exact lf_all (r := r) (i := i + 1) hf b c y h
/-- without a fault no count falls below nought or below an elder's -/
theorem kept_all {M : Nat} {pl : List Pl} (hok : PlRef pl) (hf : lfAt pl (rowsOf pl) 0 pl = none) {j : Nat} (h1 : 1 ≤ j) (hj : j < M) : ∀ (i : Nat), i < pl.length → 0 ≤ cZ M pl i j ∧ ∀ e ∈ (rowsOf pl).getD i [], cZ M pl e j ≤ cZ M pl i j := fun i => by
  induction i using Nat.strongRecOn with
  | ind i ih =>
    intro hi
    cases e : gP pl i with
    | v n =>
      have ez := cZ_v (j := j) hi hj e
      have nn : 0 ≤ cZ M pl i j := by rw [ez]; split <;> decide
      refine ⟨nn, fun k hk => ?_⟩
      rcases (row_v hi e).mp hk with rfl | ⟨a, b⟩ | ⟨_, a, b⟩
      · exact Int.le_refl _
      · rw [cZ_v (by omega) hj b, ez]; exact Int.le_refl _
      · rw [cZ_v (by omega) hj b, if_neg (by omega)]; exact nn
    | m b c y =>
      obtain ⟨hb, hc, hy⟩ : b < i ∧ c < i ∧ y < i := by
        have := hok i _ (gP_get hi)
        rw [e] at this; exact this
      obtain ⟨b0, bA⟩ := ih b hb (by omega)
      obtain ⟨c0, cA⟩ := ih c hc (by omega)
      obtain ⟨y0, yA⟩ := ih y hy (by omega)
      have hm : Pl.m b c y ∈ pl := List.mem_of_getElem? (by rw [← e]; exact gP_get hi)
      obtain ⟨k1, k2⟩ := lf_all hf b c y hm
      have below : ∀ x, x < i → (∀ k ∈ (rowsOf pl).getD x [], cZ M pl k j ≤ cZ M pl x j) → 0 ≤ cZ M pl x j → kinB pl (rowsOf pl) b x = true → cZ M pl b j ≤ cZ M pl x j := fun x hx xA x0 hk => by
        unfold kinB at hk
        rw [Bool.or_eq_true, decide_eq_true_iff] at hk
        rcases hk with h0 | hk
        · rw [cZ_v (by omega) hj h0, if_neg (by omega)]; exact x0
        · unfold sameB at hk
          obtain ⟨k, hkm, hp⟩ := List.any_eq_true.mp hk
          rw [Bool.or_eq_true, Bool.and_eq_true, decide_eq_true_iff, decide_eq_true_iff] at hp
          rcases hp with rfl | ⟨hv, hp⟩
          · exact xA _ hkm
          · have hkl := row_lt (by omega) hkm
            have : cZ M pl b j = cZ M pl k j := by
              cases ek : gP pl k with
              | v n => rw [cZ_v hkl hj ek, cZ_v (by omega) hj (by rw [← hp]; exact ek)]
              | m _ _ _ => rw [ek] at hv; cases hv
            rw [this]; exact xA _ hkm
      have l1 := below c hc cA c0 k1
      have l2 := below y hy yA y0 k2
      have ez := cZ_m (j := j) hok hi hj e
      refine ⟨by rw [ez]; omega, fun k hk => ?_⟩
      rcases (row_m hok hi e).mp hk with rfl | hk | hk | hk
      · exact Int.le_refl _
      · have := bA k hk; rw [ez]; omega
      · have := cA k hk; rw [ez]; omega
      · have := yA k hk; rw [ez]; omega
theorem kept_ok {M : Nat} {pl : List Pl} (hok : PlRef pl) (hf : lfAt pl (rowsOf pl) 0 pl = none) : keptB M (cntL M pl pl.length) (rowsOf pl) = true := by
  unfold keptB
  rw [List.all_eq_true]
  intro i hi
  have hi : i < pl.length := by
    have := List.mem_range.mp hi
    rw [show (rowsOf pl).length = pl.length from lRows_len] at this
    exact this
  rw [List.all_eq_true]
  intro e he
  rw [List.all_eq_true]
  intro j hj
  have hj := List.mem_range.mp hj
  obtain ⟨a, b⟩ := kept_all (M := M) (j := 1 + j) hok hf (by omega) (by omega) i hi
  have b := b e he
  unfold badK
  rw [decide_eq_false (show ¬ gZ (cntL M pl pl.length) i (1 + j) < 0 from by have a : 0 ≤ gZ (cntL M pl pl.length) i (1 + j) := a; omega),
    decide_eq_false (show ¬ gZ (cntL M pl pl.length) i (1 + j) < gZ (cntL M pl pl.length) e (1 + j) from by have b : gZ (cntL M pl pl.length) e (1 + j) ≤ gZ (cntL M pl pl.length) i (1 + j) := b; omega)]
  rfl
end Dl

set_option Elab.async false
set_option linter.all false
set_option maxRecDepth 100000
set_option maxHeartbeats 1000000
/-! M4: what elder_plan's plans bring. -/
namespace Dl
open PySem L2
def evAt (f : Nat → Int) (vs : List Int) : Pl → Int
  | .v n => f n
  | .m b c y => vs.getD c 0 + vs.getD y 0 - vs.getD b 0
def evL (f : Nat → Int) (pl : List Pl) : Nat → List Int
  | 0 => []
  | i + 1 => evL f pl i ++ [evAt f (evL f pl i) (gP pl i)]
theorem evL_len {f : Nat → Int} {pl : List Pl} : ∀ {i : Nat}, (evL f pl i).length = i
  | 0 => rfl
  | i + 1 => by rw [evL, List.length_append, evL_len]; rfl
theorem evL_get {f : Nat → Int} {pl : List Pl} {j : Nat} : ∀ {i : Nat}, j < i → (evL f pl i)[j]? = some (evAt f (evL f pl j) (gP pl j))
  | 0, h => absurd h (Nat.not_lt_zero _)
  | i + 1, h => by
    rw [evL]
    by_cases hj : j < i
    · rw [List.getElem?_append_left (by rw [evL_len]; exact hj)]
      exact evL_get hj
    · have : j = i := by omega
      subst this
      rw [List.getElem?_append_right (by rw [evL_len]; exact Nat.le_refl _), evL_len]
      simp
def evZ (f : Nat → Int) (pl : List Pl) (i : Nat) : Int := (evL f pl pl.length).getD i 0
theorem evL_getD {f : Nat → Int} {pl : List Pl} {i j : Nat} (h : j < i) (h2 : j < pl.length) : (evL f pl i).getD j 0 = evZ f pl j := by
  unfold evZ
  rw [List.getD_eq_getElem?_getD, List.getD_eq_getElem?_getD, evL_get h, evL_get h2]
theorem evZ_v {f : Nat → Int} {pl : List Pl} {i n : Nat} (hi : i < pl.length) (e : gP pl i = .v n) : evZ f pl i = f n := by
  unfold evZ
  rw [List.getD_eq_getElem?_getD, evL_get hi, e]; rfl
theorem evZ_m {f : Nat → Int} {pl : List Pl} {i b c y : Nat} (hok : PlRef pl) (hi : i < pl.length) (e : gP pl i = .m b c y) : evZ f pl i = evZ f pl c + evZ f pl y - evZ f pl b := by
  obtain ⟨h1, h2, h3⟩ : b < i ∧ c < i ∧ y < i := by
    have := hok i _ (gP_get hi)
    rw [e] at this; exact this
  have e0 : evZ f pl i = (evL f pl i).getD c 0 + (evL f pl i).getD y 0 - (evL f pl i).getD b 0 := by
    unfold evZ
    rw [List.getD_eq_getElem?_getD, evL_get hi, e]; rfl
  rw [e0, evL_getD h1 (by omega), evL_getD h2 (by omega), evL_getD h3 (by omega)]
theorem gP_app {pl q : List Pl} {i : Nat} (h : i < pl.length) : gP (pl ++ q) i = gP pl i := by
  unfold gP
  rw [List.getD_eq_getElem?_getD, List.getD_eq_getElem?_getD, List.getElem?_append_left h]
theorem evL_app {f : Nat → Int} {pl q : List Pl} : ∀ {i : Nat}, i ≤ pl.length → evL f (pl ++ q) i = evL f pl i
  | 0, _ => rfl
  | i + 1, h => by rw [evL, evL, evL_app (by omega), gP_app (by omega)]
theorem evZ_app {f : Nat → Int} {pl q : List Pl} {i : Nat} (h : i < pl.length) : evZ f (pl ++ q) i = evZ f pl i := by
  rw [← evL_getD (i := pl.length) h (by rw [List.length_append]; omega), evL_app (Nat.le_refl _)]; rfl
theorem gP_last {pl : List Pl} {p : Pl} : gP (pl ++ [p]) pl.length = p := by
  unfold gP
  rw [List.getD_eq_getElem?_getD, List.getElem?_append_right (Nat.le_refl _)]; simp
theorem cZ_ev {M : Nat} {pl : List Pl} {j : Nat} (hok : PlRef pl) (hj : j < M) : ∀ (i : Nat), i < pl.length → cZ M pl i j = evZ (fun n => if j = n then 1 else 0) pl i := fun i => by
  induction i using Nat.strongRecOn with
  | ind i ih =>
    intro hi
    cases e : gP pl i with
    | v n => rw [cZ_v hi hj e, evZ_v hi e]
    | m b c y =>
      obtain ⟨h1, h2, h3⟩ : b < i ∧ c < i ∧ y < i := by
        have := hok i _ (gP_get hi)
        rw [e] at this; exact this
      rw [cZ_m hok hi hj e, evZ_m hok hi e, ih b h1 (by omega), ih c h2 (by omega), ih y h3 (by omega)]
def sumD (f : Nat → Int) (l : List Nat) : Int := f 0 + (l.map fun k => f k - f 0).sum
/-- where the fold over the row stands -/
structure EFs (ms : List Nat) (done : List Nat) (pl : List Pl) (o : Nat) : Prop where
  ref : PlRef pl
  ver : ∀ p ∈ pl, match p with | .v n => n = 0 ∨ n ∈ ms | .m b _ _ => b = 0
  zero : gP pl 0 = .v 0
  base : ∀ k ∈ ms, posOf ms k < pl.length ∧ gP pl (posOf ms k) = .v k
  lo : o < pl.length
  len : pl.length = ms.length + 1 + (done.length - 1)
  f0 : done = [] → o = 0
  f1 : ∀ k, done = [k] → o = posOf ms k
  f2 : 2 ≤ done.length → o + 1 = pl.length
  nz : done ≠ [] → o ≠ 0
  ev : ∃ l : Nat → List Nat, l o = done ∧ ∀ i, i < pl.length → (l i).length ≤ 1 + done.length ∧ (∀ k ∈ l i, k ∈ ms) ∧ ∀ f, evZ f pl i = sumD f (l i)
theorem efs_start {ms : List Nat} (hn : ms.Nodup) : EFs ms [] (eBase ms) 0 := by
  have hl : (eBase ms).length = ms.length + 1 := by rw [eBase_map]; simp
  have hg : ∀ i, i < (eBase ms).length → gP (eBase ms) i = .v ((0 :: ms).getD i 0) := fun i hi => by
    have h2 : i < (0 :: ms).length := by rw [List.length_cons]; omega
    have := gP_get hi
    rw [eBase_map, List.getElem?_map, get_getD h2] at this
    rw [eBase_map]
    exact (Option.some.inj this).symm
  refine ⟨fun i p hp => ?_, fun p hp => ?_, hg 0 (by omega), fun k hk => ?_, by omega, hl, (fun _ => rfl), (fun k h => by cases h), (fun h => absurd h (by decide)), (fun h => absurd rfl h), fun i => if i = 0 then [] else [(0 :: ms).getD i 0], rfl, fun i hi => ?_⟩
  · have hi : i < (eBase ms).length := (List.getElem?_eq_some_iff.mp hp).1
    have := (gP_get hi).symm.trans hp
    rw [hg i hi] at this
    cases Option.some.inj this
    trivial
  · rw [eBase_map] at hp
    obtain ⟨n, hn, rfl⟩ := List.mem_map.mp hp
    rcases List.mem_cons.mp hn with h | h
    · exact .inl h
    · exact .inr h
  · have hi := List.idxOf_lt_length_of_mem hk
    have hp : posOf ms k < (eBase ms).length := by unfold posOf; omega
    refine ⟨hp, ?_⟩
    rw [hg _ hp]
    show Pl.v (ms.getD (ms.idxOf k) 0) = .v k
    rw [List.getD_eq_getElem?_getD, List.getElem?_eq_getElem hi]
    show Pl.v (ms[ms.idxOf k]) = .v k
    rw [List.getElem_idxOf hi]
  · dsimp only
    by_cases h0 : i = 0
    · subst h0
      refine ⟨by simp, fun k hk => by simp at hk, fun f => ?_⟩
      rw [evZ_v hi (hg 0 hi), if_pos rfl]
      show f 0 = f 0 + 0
      omega
    · rw [if_neg h0]
      refine ⟨by simp, fun k hk => ?_, fun f => ?_⟩
      · have hk : k = (0 :: ms).getD i 0 := by simpa using hk
        obtain ⟨j, rfl⟩ : ∃ j, i = j + 1 := ⟨i - 1, by omega⟩
        have hj : j < ms.length := by omega
        rw [hk]
        exact List.mem_of_getElem? (get_getD hj)
      · rw [evZ_v hi (hg i hi)]
        unfold sumD
        simp only [List.map_cons, List.map_nil, List.sum_cons, List.sum_nil]
        omega
theorem efs_step {ms done : List Nat} {pl : List Pl} {o one : Nat} (h : EFs ms done pl o) (hm : one ∈ ms) (hd : done.length ≤ 100) :
    EFs ms (done ++ [one]) (if o = 0 then pl else pl ++ [.m 0 o (posOf ms one)]) (if o = 0 then posOf ms one else pl.length) := by
  obtain ⟨ref, ver, zero, base, lo, len, f0, f1, f2, nz, l, hl, hev⟩ := h
  obtain ⟨bp, bv⟩ := base one hm
  by_cases ho : o = 0
  · have hdn : done = [] := Classical.byContradiction fun z => nz z ho
    subst hdn
    rw [if_pos ho, if_pos ho]
    refine ⟨ref, ver, zero, base, bp, len, (fun z => by cases z), (fun k z => by cases z; rfl), (fun z => absurd z (by show ¬ 2 ≤ 1; decide)), (fun _ => by unfold posOf; omega), fun i => if i = posOf ms one then [one] else l i, if_pos rfl, fun i hi => ?_⟩
    obtain ⟨a1, a2, a3⟩ := hev i hi
    dsimp only
    by_cases hi1 : i = posOf ms one
    · rw [if_pos hi1]
      refine ⟨by show 1 ≤ 2; decide, fun k hk => by rw [List.mem_singleton.mp hk]; exact hm, fun f => ?_⟩
      rw [hi1, evZ_v bp bv]
      unfold sumD
      simp only [List.map_cons, List.map_nil, List.sum_cons, List.sum_nil]
      omega
    · rw [if_neg hi1]
      exact ⟨by simp at a1 ⊢; omega, a2, a3⟩
  · have hdn : done ≠ [] := fun z => ho (f0 z)
    have hdl : 1 ≤ done.length := List.length_pos_iff.mpr hdn
    rw [if_neg ho, if_neg ho]
    have hl1 : (pl ++ [Pl.m 0 o (posOf ms one)]).length = pl.length + 1 := by simp
    have ref' : PlRef (pl ++ [.m 0 o (posOf ms one)]) := by
      intro i p hp
      by_cases hi : i < pl.length
      · rw [List.getElem?_append_left hi] at hp
        exact ref i p hp
      · have hi2 : i < (pl ++ [Pl.m 0 o (posOf ms one)]).length := (List.getElem?_eq_some_iff.mp hp).1
        have : i = pl.length := by omega
        subst this
        rw [List.getElem?_append_right (Nat.le_refl _)] at hp
        simp at hp
        subst hp
        exact ⟨by omega, lo, bp⟩
    have ga : ∀ i, i < pl.length → gP (pl ++ [.m 0 o (posOf ms one)]) i = gP pl i := fun i hi => gP_app hi
    refine ⟨ref', fun p hp => ?_, by rw [ga 0 (by omega)]; exact zero, fun k hk => ?_, by omega, by rw [hl1, List.length_append]; simp; omega, (fun z => by simp at z), (fun k z => ?_), (fun _ => by rw [hl1]), (fun _ => by omega), fun i => if i = pl.length then done ++ [one] else l i, if_pos rfl, fun i hi => ?_⟩
    · rcases List.mem_append.mp hp with z | z
      · exact ver p z
      · have : p = .m 0 o (posOf ms one) := by simpa using z
        subst this; rfl
    · obtain ⟨a, b⟩ := base k hk
      exact ⟨by omega, by rw [ga _ a]; exact b⟩
    · have := congrArg List.length z
      rw [List.length_append] at this
      have : done.length + 1 = 1 := this
      omega
    · dsimp only
      by_cases hi1 : i = pl.length
      · subst hi1
        rw [if_pos rfl]
        obtain ⟨a1, a2, a3⟩ := hev o lo
        rw [hl] at a2 a3
        refine ⟨by omega, fun k hk => ?_, fun f => ?_⟩
        · rcases List.mem_append.mp hk with z | z
          · exact a2 k z
          · rw [List.mem_singleton.mp z]; exact hm
        · rw [evZ_m ref' (by omega) gP_last, evZ_app lo, evZ_app bp, evZ_app (show 0 < pl.length by omega), a3 f, evZ_v bp bv, evZ_v (by omega) zero]
          unfold sumD
          rw [List.map_append, List.sum_append]
          simp only [List.map_cons, List.map_nil, List.sum_cons, List.sum_nil]
          omega
      · rw [if_neg hi1]
        obtain ⟨a1, a2, a3⟩ := hev i (by omega)
        refine ⟨by rw [List.length_append]; omega, a2, fun f => ?_⟩
        rw [evZ_app (by omega)]; exact a3 f
theorem efs_fold {ms : List Nat} : ∀ (r done : List Nat) (pl : List Pl) (o : Nat), EFs ms done pl o → (∀ k ∈ r, k ∈ ms) → done.length + r.length ≤ 100 → ∃ o', EFs ms (done ++ r) (eFold ms r pl o) o'
  | [], done, pl, o, h, _, _ => ⟨o, by rw [List.append_nil]; exact h⟩
  | one :: r, done, pl, o, h, hr, hl => by
    have hl : done.length + (r.length + 1) ≤ 100 := hl
    have hs := efs_step h (hr one List.mem_cons_self) (by omega)
    have := efs_fold r (done ++ [one]) _ _ hs (fun k hk => hr k (List.mem_cons_of_mem _ hk)) (by rw [List.length_append]; show done.length + 1 + r.length ≤ 100; omega)
    obtain ⟨o', h'⟩ := this
    refine ⟨o', ?_⟩
    rw [show done ++ one :: r = done ++ [one] ++ r by simp]
    have e : eFold ms (one :: r) pl o = eFold ms r (if o = 0 then pl else pl ++ [.m 0 o (posOf ms one)]) (if o = 0 then posOf ms one else pl.length) := by
      show (if o = 0 then eFold ms r pl (posOf ms one) else eFold ms r (pl ++ [.m 0 o (posOf ms one)]) pl.length) = _
      by_cases ho : o = 0
      · rw [if_pos ho, if_pos ho, if_pos ho]
      · rw [if_neg ho, if_neg ho, if_neg ho]
    rw [e]; exact h'
end Dl

set_option Elab.async false
set_option linter.all false
set_option maxRecDepth 100000
set_option maxHeartbeats 1000000
/-! M5: EpFacts. -/
namespace Dl
open PySem L2
theorem badAt_of {M : Nat} : ∀ (r : List Pl) (n : Nat), (∀ (j : Nat) (p : Pl), r[j]? = some p → match p with | .v k => k < M | .m b c y => b < n + j ∧ c < n + j ∧ y < n + j) → badAt (M : Int) n (r.map Pl.stp) = none
  | [], _, _ => rfl
  | p :: r, n, h => by
    have h0 := h 0 p rfl
    have hr := badAt_of (M := M) r (n + 1) fun j q e => by
      have := h (j + 1) q (by simpa using e)
      rw [show n + (j + 1) = n + 1 + j by omega] at this
      exact this
    have hb : ∀ {k : Nat} {m : Int}, (k : Int) < m → belD m (.int (k : Int)) = true := fun {k m} hk => by
      show (decide (0 ≤ (k : Int)) && decide ((k : Int) < m)) = true
      rw [decide_eq_true (by omega), decide_eq_true hk]; rfl
    have ok : okStp (M : Int) (n : Int) p.stp = true := by
      cases p with
      | v k => exact hb (by have h0 : k < M := h0; omega)
      | m b c y =>
        obtain ⟨h1, h2, h3⟩ := h0
        show (belD (n : Int) (.int (b : Int)) && (belD (n : Int) (.int (c : Int)) && belD (n : Int) (.int (y : Int)))) = true
        rw [hb (by omega), hb (by omega), hb (by omega)]; rfl
    show (if okStp (M : Int) (n : Int) p.stp = true then badAt (M : Int) (n + 1) (r.map Pl.stp) else some n) = none
    rw [if_pos ok]; exact hr
theorem planOk_bad {M : Nat} {pl : List Pl} (h : PlanOk M pl) : badAt (M : Int) 0 (pl.map Pl.stp) = none :=
  badAt_of pl 0 fun j p e => by
    have := h.1 j p e
    cases p with
    | v k => exact h.2 k (List.mem_of_getElem? e)
    | m b c y => rw [Nat.zero_add]; exact this
theorem lf_zero {pl : List Pl} {rows : List (List Nat)} (h0 : gP pl 0 = .v 0) : ∀ (r : List Pl) (i : Nat), (∀ p ∈ r, match p with | .v _ => True | .m b _ _ => b = 0) → lfAt pl rows i r = none
  | [], _, _ => rfl
  | .v n :: r, i, h => lf_zero h0 r (i + 1) fun p hp => h p (List.mem_cons_of_mem _ hp)
  | .m b c y :: r, i, h => by
    have hb : b = 0 := h _ List.mem_cons_self
    subst hb
    have k : ∀ x, kinB pl rows 0 x = true := fun x => by
      unfold kinB
      rw [decide_eq_true h0]; rfl
    show (if kinB pl rows 0 c && kinB pl rows 0 y then _ else some i) = none
    rw [k, k]
    exact lf_zero h0 r (i + 1) fun p hp => h p (List.mem_cons_of_mem _ hp)
theorem sum_flat {g : Nat → Int} : ∀ (L : List (List Nat)), ((L.flatten).map g).sum = (L.map fun l => (l.map g).sum).sum
  | [] => rfl
  | l :: L => by rw [List.flatten_cons, List.map_append, List.sum_append, sum_flat L, List.map_cons, List.sum_cons]
theorem sum_repG {g : Nat → Int} {x : Nat} : ∀ (c : Nat), ((List.replicate c x).map g).sum = (c : Int) * g x
  | 0 => by simp
  | c + 1 => by
    rw [List.replicate_succ, List.map_cons, List.sum_cons, sum_repG c, Int.natCast_succ, Int.add_mul]; omega
theorem sum_row {g : Nat → Int} (cs : List Nat) : ((rowOf cs).map g).sum = ((List.range cs.length).map fun i => ((cs.getD i 0 : Nat) : Int) * g (i + 1)).sum := by
  unfold rowOf
  rw [sum_flat, List.map_map]
  congr 1
  apply List.map_congr_left
  intro i _
  exact sum_repG _
theorem sum_ind {c : Nat → Int} {j : Nat} : ∀ (n : Nat), ((List.range n).map fun i => c i * (if j = i then 1 else 0)).sum = if j < n then c j else 0
  | 0 => by simp
  | n + 1 => by
    rw [List.range_succ, List.map_append, List.sum_append, sum_ind n]
    simp only [List.map_cons, List.map_nil, List.sum_cons, List.sum_nil]
    by_cases h : j = n
    · subst h
      rw [if_neg (Nat.lt_irrefl j), if_pos rfl, if_pos (Nat.lt_succ_self j)]; omega
    · rw [if_neg h]
      by_cases h2 : j < n
      · rw [if_pos h2, if_pos (by omega)]; omega
      · rw [if_neg h2, if_neg (by omega)]; omega
theorem sum_range_getD : ∀ (cs : List Nat), ((List.range cs.length).map fun i => ((cs.getD i 0 : Nat) : Int)).sum = (cs.sum : Int) := fun cs => by
  rw [range_getD (f := fun n : Nat => (n : Int)), sum_cast]
theorem sum_neg1 {c : Nat → Int} : ∀ (n : Nat), ((List.range n).map fun i => c i * (-1)).sum = -((List.range n).map c).sum
  | 0 => rfl
  | n + 1 => by
    rw [List.range_succ, List.map_append, List.sum_append, sum_neg1 n, List.map_append, List.sum_append]
    simp only [List.map_cons, List.map_nil, List.sum_cons, List.sum_nil]
    omega
theorem dot_range {ms cs : List Nat} (h : ms.length = cs.length) : ((dotS ms cs : Nat) : Int) = ((List.range cs.length).map fun i => ((cs.getD i 0 : Nat) : Int) * ((ms.getD i 0 : Nat) : Int)).sum := by
  unfold dotS
  rw [← sum_cast, List.map_map]
  congr 1
  apply List.ext_getElem
  · simp [h]
  · intro j h1 h2
    have a2 : j < cs.length := by simpa using h2
    have a1 : j < ms.length := by omega
    simp [List.getD_eq_getElem?_getD, List.getElem?_eq_getElem a1, List.getElem?_eq_getElem a2, Int.mul_comm]
theorem sum_abs {b : Int} {g : Nat → Int} (hb : 0 ≤ b) : ∀ {l : List Nat}, (∀ k ∈ l, -b ≤ g k ∧ g k ≤ b) → -(l.length * b) ≤ (l.map g).sum ∧ (l.map g).sum ≤ l.length * b
  | [], _ => by simp
  | a :: l, h => by
    obtain ⟨h1, h2⟩ := sum_abs hb (l := l) fun k hk => h k (List.mem_cons_of_mem _ hk)
    obtain ⟨h3, h4⟩ := h a List.mem_cons_self
    rw [List.map_cons, List.sum_cons, List.length_cons, Int.natCast_succ, Int.add_mul]
    constructor <;> omega
theorem sum_nonneg {g : Nat → Int} : ∀ {l : List Nat}, (∀ k ∈ l, 0 ≤ g k) → 0 ≤ (l.map g).sum
  | [], _ => by simp
  | a :: l, h => by
    have h1 := sum_nonneg (l := l) fun k hk => h k (List.mem_cons_of_mem _ hk)
    have h2 := h a List.mem_cons_self
    rw [List.map_cons, List.sum_cons]; omega
end Dl

set_option Elab.async false
set_option linter.all false
set_option maxRecDepth 100000
set_option maxHeartbeats 1000000
set_option exponentiation.threshold 2000
/-! M6: EpFacts of elder_plan's plans. -/
namespace Dl
open PySem L2
theorem log2_small {x : Int} (h1 : -1000 ≤ x) (h2 : x ≤ 1000) : x.natAbs.log2 < 1920 := by
  rcases Nat.eq_zero_or_pos x.natAbs with h0 | h0
  · rw [h0]; decide
  · exact Nat.lt_of_lt_of_le ((Nat.log2_lt (k := 10) (by omega)).mpr (Nat.lt_of_le_of_lt (show x.natAbs ≤ 1000 by omega) (by decide))) (by decide)
theorem efs_last {ms row : List Nat} {pl : List Pl} {o : Nat} (E : EFs ms row pl o) (hp : ms.Pairwise (· < ·)) (hm : ∀ k, k ∈ ms ↔ k ∈ row) : o + 1 = pl.length := by
  have len := E.len
  match row, E with
  | [], E =>
    have : ms = [] := by
      cases ms with
      | nil => rfl
      | cons a l => exact absurd ((hm a).mp List.mem_cons_self) (by simp)
    subst this
    rw [E.f0 rfl, len]; rfl
  | [k], E =>
    have hk : k ∈ ms := (hm k).mpr (by simp)
    have all : ∀ x ∈ ms, x = k := fun x hx => by simpa using (hm x).mp hx
    have : ms = [k] := by
      cases ms with
      | nil => cases hk
      | cons a l =>
        have ha := all a List.mem_cons_self
        subst ha
        cases l with
        | nil => rfl
        | cons b l =>
          have hb := all b (by simp)
          have := (List.pairwise_cons.mp hp).1 b List.mem_cons_self
          omega
    subst this
    rw [E.f1 k rfl, len]
    unfold posOf
    simp
  | a :: b :: r, E => exact E.f2 (by simp)
theorem sumD_counts0 (cs : List Nat) : sumD (fun n => if 0 = n then 1 else 0) (rowOf cs) = 1 - (cs.sum : Int) := by
  unfold sumD
  rw [sum_row]
  have : ((List.range cs.length).map fun i => ((cs.getD i 0 : Nat) : Int) * ((if 0 = i + 1 then 1 else 0) - (if (0 : Nat) = 0 then 1 else 0))) = (List.range cs.length).map fun i => ((cs.getD i 0 : Nat) : Int) * (-1) := by
    apply List.map_congr_left
    intro i _
    rw [if_neg (by omega), if_pos rfl]; rfl
  rw [this, sum_neg1, sum_range_getD]
  show (1 : Int) + -(cs.sum : Int) = _
  omega
theorem sumD_counts1 (cs : List Nat) {j : Nat} (hj : j < cs.length) : sumD (fun n => if j + 1 = n then 1 else 0) (rowOf cs) = ((cs.getD j 0 : Nat) : Int) := by
  unfold sumD
  rw [sum_row]
  have : ((List.range cs.length).map fun i => ((cs.getD i 0 : Nat) : Int) * ((if j + 1 = i + 1 then 1 else 0) - (if j + 1 = 0 then 1 else 0))) = (List.range cs.length).map fun i => ((cs.getD i 0 : Nat) : Int) * (if j = i then 1 else 0) := by
    apply List.map_congr_left
    intro i _
    rw [if_neg (show ¬ j + 1 = 0 by omega)]
    by_cases h : j = i
    · rw [if_pos (by omega), if_pos h]; rfl
    · rw [if_neg (by omega), if_neg h]; rfl
  rw [this, sum_ind, if_pos hj]
  show (0 : Int) + _ = _
  omega
theorem ep_facts {cs ms : List Nat} (h1 : 1 ≤ cs.length) (h5 : cs.length ≤ 5) (h9 : cs.sum ≤ 9) (hp : ms.Pairwise (· < ·)) (hm : ∀ k, k ∈ ms ↔ k ∈ rowOf cs) (hl : ms.length ≤ cs.sum) : EpFacts cs (eplan cs ms) := by
  have hnd : ms.Nodup := hp.imp fun h => Nat.ne_of_lt h
  obtain ⟨o, E⟩ := efs_fold (rowOf cs) [] (eBase ms) 0 (efs_start hnd) (fun k hk => (hm k).mpr hk) (by rw [rowOf_len]; show 0 + cs.sum ≤ 100; omega)
  rw [List.nil_append] at E
  have hlast := efs_last E hp hm
  have hpos : ∀ k ∈ ms, 1 ≤ k ∧ k ≤ cs.length := fun k hk => rowOf_pos ((hm k).mp hk)
  have ep : eFold ms (rowOf cs) (eBase ms) 0 = eplan cs ms := rfl
  rw [ep] at E hlast
  generalize eplan cs ms = pl at E hlast
  have hrl := rowOf_len cs
  have len := E.len
  rw [hrl] at len
  obtain ⟨l, hlo, hev⟩ := E.ev
  have len20 : pl.length ≤ 20 := by omega
  have hpo : PlanOk (cs.length + 1) pl := ⟨E.ref, fun n hn => by
    rcases E.ver _ hn with h | h
    · omega
    · have := (hpos n h).2; omega⟩
  have hlf : lfAt pl (rowsOf pl) 0 pl = none := lf_zero E.zero pl 0 fun p hp => by
    have := E.ver p hp
    cases p with
    | v n => trivial
    | m b c y => exact this
  have oval : ∀ f, evZ f pl (pl.length - 1) = sumD f (rowOf cs) := fun f => by
    have := (hev o E.lo).2.2 f
    rw [hlo] at this
    rw [show pl.length - 1 = o by omega]; exact this
  have lastC : (cntL (cs.length + 1) pl pl.length).getLast? = some ((1 - (cs.sum : Int)) :: cs.map fun c : Nat => (c : Int)) := by
    have e : (cntL (cs.length + 1) pl pl.length).getLast? = some ((cntL (cs.length + 1) pl pl.length).getD (pl.length - 1) []) := by
      rw [List.getLast?_eq_getElem?, cntL_len, List.getD_eq_getElem?_getD, List.getElem?_eq_getElem (by rw [cntL_len]; omega)]; rfl
    rw [e]
    congr 1
    have hle : ((cntL (cs.length + 1) pl pl.length).getD (pl.length - 1) []).length = cs.length + 1 := by
      rw [List.getD_eq_getElem?_getD, cntL_get (by omega)]
      exact cntAt_len
    have hz : ∀ j, j < cs.length + 1 → ((cntL (cs.length + 1) pl pl.length).getD (pl.length - 1) []).getD j 0 = sumD (fun n => if j = n then 1 else 0) (rowOf cs) := fun j hj => by
      have := cZ_ev (M := cs.length + 1) E.ref hj (pl.length - 1) (by omega)
      rw [oval] at this
      exact this
    apply List.ext_getElem
    · rw [hle]; simp
    · intro j a1 a2
      have hj : j < cs.length + 1 := by omega
      have := hz j hj
      rw [List.getD_eq_getElem?_getD, List.getElem?_eq_getElem a1] at this
      have this : _ = sumD (fun n => if j = n then 1 else 0) (rowOf cs) := this
      refine Eq.trans this ?_
      cases j with
      | zero => rw [sumD_counts0]; rfl
      | succ j =>
        have hj2 : j < cs.length := by omega
        rw [sumD_counts1 cs hj2]
        rw [List.getElem_cons_succ, List.getElem_map, List.getD_eq_getElem?_getD, List.getElem?_eq_getElem hj2]; rfl
  refine ⟨by omega, len20, E.ref, planOk_bad hpo, hlf, ⟨_, eld_ok E.ref len20, by rw [fault_eq E.ref]; exact hlf⟩, ⟨_, rows_ok E.ref, lastC, fun r hr x hx => ?_⟩, fun base more hml hb3 hm3 => ?_, fun p hp => ?_⟩
  · obtain ⟨i, hi, er⟩ := List.getElem_of_mem hr
    rw [cntL_len] at hi
    obtain ⟨j, hj, ex⟩ := List.getElem_of_mem hx
    have hle : r.length = cs.length + 1 := by
      have := cntL_get (M := cs.length + 1) (pl := pl) hi
      rw [List.getElem?_eq_getElem (by rw [cntL_len]; exact hi), er] at this
      rw [Option.some.inj this]; exact cntAt_len
    have hz : x = evZ (fun n => if j = n then 1 else 0) pl i := by
      rw [← cZ_ev (M := cs.length + 1) E.ref (by omega) i hi]
      have er' : (cntL (cs.length + 1) pl pl.length).getD i [] = r := by
        rw [List.getD_eq_getElem?_getD, List.getElem?_eq_getElem (by rw [cntL_len]; exact hi)]; exact er
      unfold cZ gZ
      rw [er', List.getD_eq_getElem?_getD, List.getElem?_eq_getElem hj]; exact ex.symm
    obtain ⟨a1, a2, a3⟩ := hev i hi
    rw [a3] at hz
    have hb := sum_abs (b := 1) (g := fun k => (if j = k then (1 : Int) else 0) - (if j = 0 then 1 else 0)) (by decide) (l := l i) fun k _ => by
      split <;> split <;> decide
    unfold sumD at hz
    have h0 : (0 : Int) ≤ (if j = 0 then 1 else 0) ∧ (if j = 0 then (1 : Int) else 0) ≤ 1 := by split <;> decide
    have hz : x = (if j = 0 then 1 else 0) + ((l i).map fun k => (if j = k then (1 : Int) else 0) - (if j = 0 then 1 else 0)).sum := hz
    rw [hrl] at a1
    refine log2_small ?_ ?_ <;> omega
  · have hfk : ∀ k, 1 ≤ k → k ≤ cs.length → (base :: more.map fun m => base + m).getD k 0 = base + more.getD (k - 1) 0 := fun k k1 k2 => by
      obtain ⟨q, rfl⟩ : ∃ q, k = q + 1 := ⟨k - 1, by omega⟩
      show (more.map fun m => base + m).getD q 0 = base + more.getD q 0
      rw [List.getD_eq_getElem?_getD, List.getElem?_map, List.getD_eq_getElem?_getD, List.getElem?_eq_getElem (by omega)]; rfl
    have hm3' : ∀ q, more.getD q 0 ≤ 3 := fun q => by
      rw [List.getD_eq_getElem?_getD]
      cases e : more[q]? with
      | none => exact Nat.zero_le _
      | some m => exact hm3 m (List.mem_of_getElem? e)
    generalize hf : (fun n : Nat => (((base :: more.map fun m => base + m).getD n 0 : Nat) : Int)) = f
    have f0 : f 0 = (base : Int) := by rw [← hf]; rfl
    have fk : ∀ k, 1 ≤ k → k ≤ cs.length → f k - f 0 = ((more.getD (k - 1) 0 : Nat) : Int) := fun k k1 k2 => by
      rw [f0, ← hf]
      show (((base :: more.map fun m => base + m).getD k 0 : Nat) : Int) - _ = _
      rw [hfk k k1 k2]; omega
    have bnd : ∀ i, i < pl.length → 0 ≤ evZ f pl i ∧ evZ f pl i ≤ 300 := fun i hi => by
      obtain ⟨a1, a2, a3⟩ := hev i hi
      rw [a3 f]
      unfold sumD
      have b1 := sum_nonneg (g := fun k => f k - f 0) (l := l i) fun k hk => by
        have := hpos k (a2 k hk)
        show 0 ≤ f k - f 0
        rw [fk k this.1 this.2]; omega
      have b2 := (sum_abs (b := 3) (g := fun k => f k - f 0) (by decide) (l := l i) fun k hk => by
        have h2 := hpos k (a2 k hk)
        have h3 := hm3' (k - 1)
        show -3 ≤ f k - f 0 ∧ f k - f 0 ≤ 3
        rw [fk k h2.1 h2.2]; omega).2
      rw [hrl] at a1
      rw [f0] at b1 b2 ⊢
      omega
    have gl : ∀ i, i < pl.length → ((List.range pl.length).map fun i => (evZ f pl i).toNat)[i]? = some (evZ f pl i).toNat := fun i hi => by
      rw [List.getElem?_map, List.getElem?_range hi]; rfl
    refine ⟨(List.range pl.length).map fun i => (evZ f pl i).toNat, ⟨by simp, fun x hx => ?_, fun i p hip => ?_⟩, ?_⟩
    · obtain ⟨i, hi, rfl⟩ := List.mem_map.mp hx
      have := (bnd i (List.mem_range.mp hi)).2
      omega
    · have hi : i < pl.length := (List.getElem?_eq_some_iff.mp hip).1
      have e : gP pl i = p := Option.some.inj ((gP_get hi).symm.trans hip)
      refine ⟨_, gl i hi, ?_⟩
      cases p with
      | v n =>
        show (base :: more.map fun m => base + m)[n]? = some (evZ f pl i).toNat
        have hn := hpo.2 n (List.mem_of_getElem? hip)
        rw [evZ_v hi e, ← hf]
        show _ = some ((((base :: more.map fun m => base + m).getD n 0 : Nat) : Int)).toNat
        rw [Int.toNat_natCast]
        exact get_getD (by rw [List.length_cons, List.length_map]; omega)
      | m b c y =>
        obtain ⟨c1, c2, c3⟩ : b < i ∧ c < i ∧ y < i := E.ref i _ hip
        refine ⟨c1, c2, c3, _, _, _, gl b (by omega), gl c (by omega), gl y (by omega), ?_⟩
        have ez := evZ_m (f := f) E.ref hi e
        have n1 := (bnd i hi).1
        have n2 := (bnd b (by omega)).1
        have n3 := (bnd c (by omega)).1
        have n4 := (bnd y (by omega)).1
        omega
    · rw [List.getLast?_eq_getElem?, List.length_map, List.length_range, gl _ (by omega), oval]
      congr 1
      have : sumD f (rowOf cs) = ((base + dotS more cs : Nat) : Int) := by
        unfold sumD
        rw [sum_row (g := fun k => f k - f 0), f0, Int.natCast_add, dot_range hml]
        congr 2
        apply List.map_congr_left
        intro i hi
        have hi := List.mem_range.mp hi
        have := fk (i + 1) (by omega) (by omega)
        rw [f0] at this
        rw [this]; rfl
      rw [this, Int.toNat_natCast]
  · have := E.ver p hp
    cases p with
    | v n =>
      show n ≤ 1000
      rcases this with h | h
      · omega
      · have := (hpos n h).2; omega
    | m b c y => trivial
end Dl

set_option Elab.async false
set_option linter.all false
set_option maxRecDepth 100000
set_option maxHeartbeats 1000000
/-! R6: a call with keywords alone. -/
namespace Dl
open PySem PySem.Spec PyProof.Rows L2
section
variable {X : Cx} {CX : CXT} {k : Nat} {f : Addr} {fd : FuncData} {ps ks : List Str} {sp : Sp} {E : XK} {x : Str} {kws : List Keyword} {tk : TA} {p pos : Pos} {g : List Value → List Value → List Value} {gV : List V → List V → List V}
def tCallK0 (sp : Sp) (gV : List V → List V → List V) (E : XK) (tk : TA) : TE := fun σ H Q => tk σ H fun zs H2 => sp (gV [] zs) H2 Q E
theorem pe_callK0 (F : FnOk X.prog X.w X.K X.mg X.base CX k f fd ps sp) (hr : Room k X.A) (hg : Gl X x) (hm : X.mg x = some (.ref f)) (hk : PySem.W.keepIn X.K (.ref f) = true) (hb : KBinds X.K fd ps ks g gV) (hx : Passes CX X E)
    (hkw : PK X kws tk) (hall : (backToKw pos (keywordEach kws X.env)).all (·.1.isSome) = true := by rfl) (hks : (backToKw pos (keywordEach kws X.env)).filterMap (·.1) = ks := by rfl)
    (hdb : (x == ("__debug__" : Str)) = false := by decide)
    (hpl : ((backTo pos (starEach [] X.env)).any (·.1) || (backToKw pos (keywordEach kws X.env)).any (·.1.isNone)) = false := by rfl) :
    PE X (.Call (.Name x p) [] kws pos) (tCallK0 sp gV E tk) := by
  refine ⟨fun pins s σ H Q I h => ?_⟩
  refine wpAny_Call_Name_kw (ld_glob I hg hm ?_ hdb)
  refine PySem.W.callWith_KW0 (h₀ := X.base) I.ok.mod.kin hk hall (thn (hkw.run pos pins s σ H _ I h) fun ws s2 ⟨zs, H2, I2, rz, q2⟩ => ⟨I2.kIn, ?_⟩) hpl
  rw [hks]
  exact run_fnk (us := []) (vs := []) F hr hb hx I2 .nil rz q2
end
end Dl

set_option Elab.async false
set_option linter.all false
set_option maxRecDepth 100000
set_option maxHeartbeats 2000000
/-! R7: several except clauses, some of them with «as». -/
namespace Dl
open PySem PySem.Spec PyProof.Rows L2
abbrev Clause := Value × Option Nat × (Addr → Value → Option Addr → TS)
/-- what the clauses wish of an exception of the body, one after the other; the number is the slot of the name behind «as» -/
def wManyA (K : PySem.W.Frag) (Wout : WX) (D : Ends) : List Clause → WX
  | [] => Wout
  | (c, none, ts) :: r => fun cls d σ H => ∃ b, PySem.W.exmOne K cls c = some b ∧ (b = true → ∀ a, H a = none → ts a cls d D σ H) ∧ (b = false → wManyA K Wout D r cls d σ H)
  | (c, some i, ts) :: r => fun cls d σ H => ∃ b, PySem.W.exmOne K cls c = some b ∧
      (b = true → ∀ a, H a = none → ts a cls d { nx := fun σ' H' => D.nx (σ'.set i none) H', rt := D.rt, bk := fun σ' H' => D.bk (σ'.set i none) H', ct := fun σ' H' => D.ct (σ'.set i none) H' } (σ.set i (some (.ref a))) H) ∧ (b = false → wManyA K Wout D r cls d σ H)
inductive HdsA (X : Cx) : List ExceptHandler → List Clause → Prop
  | nil : HdsA X [] []
  | cons {x : Str} {c : Value} {ts : Addr → Value → Option Addr → TS} {b₀ : Stmt} {suite : List Stmt} {np pos' : Pos} {hds : List ExceptHandler} {l : List Clause} (hc : Names X x c)
      (hsu : ∀ (a : Addr) (oe : Obj) (cls : Value) (d : Option Addr) (pn : List (Addr × Obj)), Zc cls d oe → (∃ vs, oe.data = .fields vs) → PSs (X.suite a ((a, oe) :: pn)) (b₀ :: suite) (ts a cls d)) (r : HdsA X hds l) :
      HdsA X (.ExceptHandler (some (.Name x np)) none (b₀ :: suite) pos' :: hds) ((c, none, ts) :: l)
  | consA {x n : Str} {i : Nat} {c : Value} {ts : Addr → Value → Option Addr → TS} {b₀ : Stmt} {suite : List Stmt} {np pos' : Pos} {hds : List ExceptHandler} {l : List Clause} (hi : X.N[i]? = some n) (hln : X.env.kindOf n = some .local) (hc : Names X x c)
      (hsu : ∀ (a : Addr) (oe : Obj) (cls : Value) (d : Option Addr) (pn : List (Addr × Obj)), Zc cls d oe → (∃ vs, oe.data = .fields vs) → PSs (X.suite a ((a, oe) :: pn)) (b₀ :: suite) (ts a cls d)) (r : HdsA X hds l) :
      HdsA X (.ExceptHandler (some (.Name x np)) (some n) (b₀ :: suite) pos' :: hds) ((c, some i, ts) :: l)
section
variable {X : Cx} {body : List Stmt} {h₀ : ExceptHandler} {hds : List ExceptHandler} {l : List Clause} {pos : Pos} {tb : WX → TS} {Wout : WX}
theorem ps_try_manyA (hN : X.N.Nodup) (hs : X.stack = X.env :: X.outer) (hf : X.env.frame = some X.env.locals) (tk : Takes X Wout)
    (hb : ∀ (W : WX) (pn : List (Addr × Obj)) (xe : Value → Shared → Prop), Takes (X.tr pn xe) W → PassesOwn (model X.prog X.w) X.A X.env xe → PSs (X.tr pn xe) body (tb W))
    (hh : HdsA X (h₀ :: hds) l) : PS X (.Try body (h₀ :: hds) [] [] pos) (fun D σ H => tb (wManyA X.K Wout D l) D σ H) := by
  refine ⟨fun pins s σ H D I h => ?_⟩
  have ok := I.ok
  have hfr : X.A.frames = some (X.env :: X.outer) := by rw [ok.frames, hs]
  refine wpAny_Try_except ?_
  refine wpAny_mono ((hb (wManyA X.K Wout D l) (X.pn ++ pins) (fun e s₁ => wpAny (model X.prog X.w) X.A (noteFrame e X.env) (fun _ s₂ => wpAny (model X.prog X.w) X.A (setFlight e none) (fun _ s₃ =>
    wpAny (model X.prog X.w) X.A (handleBy e X.env (h₀ :: hds)) (SP X pins D) X.xe s₃) X.xe s₂) X.xe s₁) (fun u s' xx => ?_) PassesOwn.looking).run [] s σ H D (I.toTry _) h) (fun f s1 hsp => ?_) (fun e s1 he => he)
  · -- the catch
    obtain ⟨a, B, sI, pins', σ', H', cls, d, rfl, J', nb, up, sky, na, os, ag, w⟩ := xx
    have J : Inv X pins σ' H' sI := J'.ofTry ok
    have sky' : Sky B (X.env :: X.outer) a (Zc cls d) X.env.locals s'.heap := by rw [← hs]; exact sky
    show wpAny (model X.prog X.w) X.A (noteFrame (.ref a) X.env) _ _ _
    refine Sky.land Zc.steady hfr hf sky' fun h3 fl3 up3 => ?_
    have J3 : Inv X pins σ' H' { s' with heap := h3 } := J.landed nb fl3.1 (up.trans up3) os ag
    obtain ⟨oe3, vs3, he3, hz3, hd3⟩ := fl3.there
    have notFr : ∀ {h : Heap} {o : Obj} {vs : Array Value}, h.FunFrames B (X.env :: X.outer) → h.get? a = some o → o.data = .fields vs → a ∉ frs (X.env :: X.outer) := fun {h o vs} ff e dd hm => by
      obtain ⟨_, o', e', hnf⟩ := ff.mem hm
      rw [e] at e'; cases e'
      exact hnf _ dd
    have nfr := notFr fl3.2.2.1 he3 hd3
    have nL : a ≠ X.env.locals := fun z => nfr (List.mem_filterMap.mpr ⟨X.env, List.mem_cons_self, by rw [hf, z]⟩)
    have nF : a ∉ X.fs := fun hm => by
      obtain ⟨e, he, q⟩ := List.mem_filterMap.mp hm
      exact nfr (List.mem_filterMap.mpr ⟨e, List.mem_cons_of_mem _ he, q⟩)
    have S3 := J3.suite he3 hd3 na nL nF
    have go : ∀ {hds' : List ExceptHandler} {l' : List Clause}, HdsA X hds' l' → wManyA X.K Wout D l' cls d σ' H' →
        wpAny (model X.prog X.w) X.A (handleBy (.ref a) X.env hds') (SP X pins D) X.xe { s' with heap := h3 } := by
      intro hds' l' hk
      induction hk with
      | nil =>
        intro w
        refine wpAny_handleBy_nil ?_
        obtain ⟨k1, k2, k3, oe, vs, T, oT, ts', he, hz, hd, h1, hr⟩ := id fl3
        unfold PySem.passOn
        refine wpAny_bind (wpAny_field he hd h1 ?_)
        rw [if_neg (show ¬ ((Value.ref T == Value.none) = true) from by simp)]
        have fin : wpAny (model X.prog X.w) X.A (setFlight (.ref a) X.env.frame) (fun _ s4 => wpAny (model X.prog X.w) X.A (throw (.ref a) : Sem Flow) (SP X pins D) X.xe s4) X.xe { s' with heap := h3 } := by
          rw [hf]
          refine HandSPX.setFlight_upZ fl3 fun h4 hh4 up4 => wpAny_throw (tk _ _ ?_)
          exact ⟨a, B, sI, pins, σ', H', cls, d, rfl, J, nb, (up.trans up3).trans up4, .inr (.inr (by rw [hs]; exact hh4)), na, os, ag, w⟩
        first
          | exact wpAny_bind (wpAny_pure (wpAny_bind fin))
          | exact wpAny_bind fin
      | @cons x c ts b₀ suite np pos' hds2 l2 hc hsu r ih =>
        intro w
        obtain ⟨b, hb1, hyes, hno⟩ := w
        refine wpAny_handleBy_cons (codeAny_handlers_test ?_) (by intro q; cases q)
        have LT : PySem.W.Looks (model X.prog X.w) h3 (typeOf (.ref a)) cls := fun A Q E s k q => wpAny_typeOf_ref (k _ _ he3) (by rw [hz3.1]; exact q)
        have LM := PySem.W.exm_one (M := model X.prog X.w) (J3.kIn) LT hb1
        have test : ∀ {Q : Value → Shared → Prop} {E : Value → Shared → Prop}, Q c { s' with heap := h3 } → wpAny (model X.prog X.w) (X.A.mark (some (.ref a))) (eval (.Name x np) X.env) Q E { s' with heap := h3 } := fun {Q E} q => by
          obtain ⟨hg, hdbg, hm | ⟨hm, hv, hnn⟩⟩ := hc
          · exact ld_glob (X := X.suite a ((a, oe3) :: (X.pn ++ pins))) S3 hg hm q hdbg
          · exact ld_blt (X := X.suite a ((a, oe3) :: (X.pn ++ pins))) S3 hg hm hv q hnn hdbg
        refine test (LM.here ?_)
        cases b with
        | true =>
          refine codeAny_handlers_suite ?_
          refine HandSPX.lands_againZ fl3 fun h4 fl4 up4 => ?_
          have J4 : Inv X pins σ' H' { s' with heap := h4 } := J.landed nb fl4.1 ((up.trans up3).trans up4) os ag
          obtain ⟨oe4, vs4, he4, hz4, hd4⟩ := fl4.there
          have S4 := J4.suite he4 hd4 na nL nF
          refine wpAny_mono ((hsu a oe4 cls d (X.pn ++ pins) hz4 ⟨_, hd4⟩).run [] _ _ H' _ S4 (hyes rfl a na)) (fun f s6 hsp => ?_) (fun _ _ z => False.elim z)
          cases f with
          | next =>
            obtain ⟨σ6, H6, S6, q6⟩ := hsp
            exact ⟨_, _, S6.unsuite ok, q6⟩
          | brk =>
            obtain ⟨σ6, H6, S6, q6⟩ := hsp
            exact ⟨_, _, S6.unsuite ok, q6⟩
          | cont =>
            obtain ⟨σ6, H6, S6, q6⟩ := hsp
            exact ⟨_, _, S6.unsuite ok, q6⟩
          | ret u =>
            obtain ⟨v6, σ6, H6, S6, r6, q6⟩ := hsp
            exact ⟨_, _, _, S6.unsuite ok, r6, q6⟩
        | false =>
          show wpAny _ X.A (handleBy (.ref a) X.env hds2) _ _ _
          exact ih (hno rfl)
      | @consA x n i c ts b₀ suite np pos' hds2 l2 hi hln hc hsu r ih =>
        intro w
        obtain ⟨b, hb1, hyes, hno⟩ := w
        refine wpAny_handleBy_cons (codeAny_handlers_test ?_) (by intro q; cases q)
        have LT : PySem.W.Looks (model X.prog X.w) h3 (typeOf (.ref a)) cls := fun A Q E s k q => wpAny_typeOf_ref (k _ _ he3) (by rw [hz3.1]; exact q)
        have LM := PySem.W.exm_one (M := model X.prog X.w) (J3.kIn) LT hb1
        have test : ∀ {Q : Value → Shared → Prop} {E : Value → Shared → Prop}, Q c { s' with heap := h3 } → wpAny (model X.prog X.w) (X.A.mark (some (.ref a))) (eval (.Name x np) X.env) Q E { s' with heap := h3 } := fun {Q E} q => by
          obtain ⟨hg, hdbg, hm | ⟨hm, hv, hnn⟩⟩ := hc
          · exact ld_glob (X := X.suite a ((a, oe3) :: (X.pn ++ pins))) S3 hg hm q hdbg
          · exact ld_blt (X := X.suite a ((a, oe3) :: (X.pn ++ pins))) S3 hg hm hv q hnn hdbg
        refine test (LM.here ?_)
        cases b with
        | true =>
          have hloc : Loc X.env.scope n := .inl hln
          refine codeAny_handlers_suite_as ?_
          refine HandSPX.lands_againZ fl3 fun h4 fl4 up4 => ?_
          have J4 : Inv X pins σ' H' { s' with heap := h4 } := J.landed nb fl4.1 ((up.trans up3).trans up4) os ag
          obtain ⟨oe4, vs4, he4, hz4, hd4⟩ := fl4.there
          have S4 := J4.suite he4 hd4 na nL nF
          refine store_ok (X := X.suite a ((a, oe4) :: (X.pn ++ pins))) (v := .ref a) S4 hN hi hloc rfl (fun s5 S5 => ?_) (.inr hln)
          refine wpAny_mono ((hsu a oe4 cls d (X.pn ++ pins) hz4 ⟨_, hd4⟩).run [] s5 _ H' _ S5 (hyes rfl a na)) (fun f s6 hsp => ?_) (fun _ _ z => False.elim z)
          have end_ : ∀ {σ6 : L2.St} {H6 : Hp} {Q : Shared → Prop}, Inv (X.suite a ((a, oe4) :: (X.pn ++ pins))) [] σ6 H6 s6 → (∀ s7, Inv X pins (σ6.set i none) H6 s7 → Q s7) →
              wpAny (model X.prog X.w) X.A (do bindName X.env n .none; unbindBehindTheSuite X.env n pos') (fun _ s7 => Q s7) X.xe s6 := fun {σ6 H6 Q} S6 hq => gone_ok (S6.unsuite ok) hN hi hln hq
          cases f with
          | next =>
            obtain ⟨σ6, H6, S6, q6⟩ := hsp
            exact end_ S6 fun s7 J7 => ⟨_, _, J7, q6⟩
          | brk =>
            obtain ⟨σ6, H6, S6, q6⟩ := hsp
            exact end_ S6 fun s7 J7 => ⟨_, _, J7, q6⟩
          | cont =>
            obtain ⟨σ6, H6, S6, q6⟩ := hsp
            exact end_ S6 fun s7 J7 => ⟨_, _, J7, q6⟩
          | ret u =>
            obtain ⟨v6, σ6, H6, S6, r6, q6⟩ := hsp
            exact end_ S6 fun s7 J7 => ⟨_, _, _, J7, r6, q6⟩
        | false =>
          show wpAny _ X.A (handleBy (.ref a) X.env hds2) _ _ _
          exact ih (hno rfl)
    exact go hh w
  · cases f with
    | next =>
      obtain ⟨σ', H', J', q⟩ := hsp
      exact wpAny_execs_nil ⟨σ', H', J'.ofTry ok, q⟩
    | brk =>
      obtain ⟨σ', H', J', q⟩ := hsp
      exact ⟨σ', H', J'.ofTry ok, q⟩
    | cont =>
      obtain ⟨σ', H', J', q⟩ := hsp
      exact ⟨σ', H', J'.ofTry ok, q⟩
    | ret u =>
      obtain ⟨v, σ', H', J', r, q⟩ := hsp
      exact ⟨v, σ', H', J'.ofTry ok, r, q⟩
end
end Dl

set_option Elab.async false
set_option linter.all false
set_option maxRecDepth 100000
set_option maxHeartbeats 2000000
/-! R8: a lambda as a value that is kept. -/
namespace Dl
open PySem PySem.Spec PyProof.Rows L2 LamX
/-- the function object at f is this lambda, its code object at c' -/
def LamO (f : Addr) (q : Str) (params : Arguments) (body : Expr) (scope : Scope) (clos : List (Str × Addr)) (c' : Addr) : HO := .ext fun h => ∃ (pm ctv : Value), h.get? f = some (PySem.W.kla_obj "<lambda>" q params body scope clos pm c' ctv)
theorem lamO_ok {P : Program} {w : World} {H : Hp} {h : Heap} {f c' : Addr} {q : Str} {params : Arguments} {body : Expr} {scope : Scope} {clos : List (Str × Addr)} {pm ctv : Value} (e : h.get? f = some (PySem.W.kla_obj "<lambda>" q params body scope clos pm c' ctv)) :
    ObjOk P w H h f (LamO f q params body scope clos c') := ⟨⟨pm, ctv, e⟩, ⟨_, e⟩, fun h1 h2 ⟨pm, ctv, a⟩ st => ⟨pm, ctv, st _ a⟩⟩
section
variable {X : Cx} {pins : List (Addr × Obj)} {σ : L2.St} {H : Hp} {s : Shared}
theorem lam_make3 {T : List (Addr × Str)} {c P : Addr} {params : Arguments} {body : Expr} {scope : Scope} {pos : Pos} {E : Value → Shared → Prop} {Q : Value → Shared → Prop} (I : Inv X pins σ H s) (TB : TabB X.base X.mg c P) (hcode : X.env.code = .ref c)
    (hm : (P, X.env.qual ++ "<lambda>") ∈ T) (hu : ∀ p ∈ T, p.1 = P → p.2 = X.env.qual ++ "<lambda>") (hT : Tabs T H) (hdef : defaultsOf params X.env = ([], [])) (hfree : ∀ y ∈ scope.names, y.2 = .free → ∃ c, X.env.cells.lookup y.1 = some c)
    (h : ∀ (f c' : Addr) (H1 : Hp) (s' : Shared), Inv X pins σ (upd H1 f (LamO f (X.env.qual ++ "<lambda>") params body scope (cloFrom X.env.cells scope.names []) c')) s' → ExtN H H1 → Tabs T H1 →
      H1 f = none → f ∉ frs X.stack → H1 c' = some (CodeO c' (X.env.qual ++ "<lambda>")) → Q (.ref f) s') :
    wpAny (model X.prog X.w) X.A (eval (.Lambda params body scope pos) X.env) Q E s := by
  obtain ⟨ps, hP, ht, ha⟩ := hT _ hm
  refine PySem.W.kla_eval hdef ?_
  have bP : s.heap.BuiltinsAt X.mg P := TB.bm.keeps I.bk
  have hP' : s.heap.get? P = some { cls := .none, data := .fields ps } := I.hok P _ hP
  have nofr : ∀ f, s.heap.objs.size ≤ f → f ∉ frs X.stack := fun f hf z => by
    rcases List.mem_cons.mp (I.stkSub _ z) with e | e
    · have h1 := I.lt
      rw [← e] at h1
      exact Nat.lt_irrefl _ (Nat.lt_of_lt_of_le h1 hf)
    · exact I.nofs hf e
  cases hc : codeAmong pos ps.toList with
  | none =>
    refine PySem.W.kla_makeFunction (mg := X.mg) (c := c) (P := P) (ps := ps) (closure_ok hfree) I.ok.glob (I.mod.glob.keeps I.bk) hcode (TB.code.keeps I.bk) hP' ht hc TB.gP bP fun c' ctv h' tk hx hge hlt hrec htb => ?_
    obtain ⟨c2, oc, vs, t, e2, hoc, hd, hv⟩ := hrec
    cases e2
    have hsz : s.heap.objs.size ≤ h'.objs.size := Nat.le_trans hge (Nat.le_of_lt hlt)
    have nC : H c' = none := I.hok.fresh hge
    have I1 := inv_table (t' := tk) (more := #[rawInt pos.line, rawInt pos.col, .ref c']) (h' := h') I hP
      (fun b o hb e => hx b o hb e) htb hge ⟨oc, vs, t, hoc, hd, hv⟩
    have I2 := I1.laid (t' := tk) (o := LamO h'.objs.size (X.env.qual ++ "<lambda>") params body scope (cloFrom X.env.cells scope.names []) c') (h' := h'.push (PySem.W.kla_obj "<lambda>" (X.env.qual ++ "<lambda>") params body scope (cloFrom X.env.cells scope.names []) ((X.mg "__name__").getD .none) c' ctv)) (fun b u e => Heap.get?_push_of_some _ e) (Nat.le_refl _) (lamO_ok (Heap.get?_push_size _ rfl))
    have hE : ExtN H (upd (upd H P (.tbl (ps ++ #[rawInt pos.line, rawInt pos.col, .ref c']))) c' (CodeO c' (X.env.qual ++ "<lambda>"))) := fun b o e n => by
      rw [upd_ne (ne_of_none e nC), upd_ne (fun z => n ps (Option.some.inj (e.symm.trans (by rw [z]; exact hP))))]
      exact e
    have eL : (ps ++ #[rawInt pos.line, rawInt pos.col, .ref c']).toList = ps.toList ++ [rawInt pos.line, rawInt pos.col, .ref c'] := by simp
    refine h h'.objs.size c' _ _ I2 hE (fun p hp => ?_) ?_ (nofr _ hsz) upd_same
    · by_cases hb : p.1 = P
      · rw [hu p hp hb, hb]
        refine ⟨_, by rw [upd_ne (ne_of_none hP nC), upd_same], by rw [eL]; exact PySem.TriplesOk_snoc _ _ _ _ ht, fun p' cv hcv => ?_⟩
        rw [eL] at hcv
        rcases among_app _ ht hcv with z | z
        · obtain ⟨c0, e1, e2⟩ := ha p' cv z
          exact ⟨c0, e1, hE _ _ e2 codeO_ne⟩
        · exact ⟨c', z, upd_same⟩
      · obtain ⟨ps', a1, a2, a3⟩ := hT p hp
        refine ⟨ps', by rw [upd_ne (ne_of_none a1 nC), upd_ne hb]; exact a1, a2, fun p' cv hcv => ?_⟩
        obtain ⟨c0, e1, e2⟩ := a3 p' cv hcv
        exact ⟨c0, e1, hE _ _ e2 codeO_ne⟩
    · have n1 : h'.objs.size ≠ c' := Nat.ne_of_gt hlt
      have n2 : h'.objs.size ≠ P := Nat.ne_of_gt (Nat.lt_of_lt_of_le (Heap.lt_size hP') hsz)
      rw [upd_ne n1, upd_ne n2]
      exact I.hok.fresh hsz
  | some cv =>
    obtain ⟨c', e, hco⟩ := ha pos cv hc
    subst e
    refine PySem.W.kla_makeFunctionHit (mg := X.mg) (c := c) (P := P) (ps := ps) (closure_ok hfree) I.ok.glob (I.mod.glob.keeps I.bk) hcode (TB.code.keeps I.bk) hP' ht hc bP fun ctv h' tk hx hsz => ?_
    have I1 : Inv X pins σ H { s with heap := h', toks := tk } := I.kept hx
    have I2 := I1.laid (t' := tk) (o := LamO h'.objs.size (X.env.qual ++ "<lambda>") params body scope (cloFrom X.env.cells scope.names []) c') (h' := h'.push (PySem.W.kla_obj "<lambda>" (X.env.qual ++ "<lambda>") params body scope (cloFrom X.env.cells scope.names []) ((X.mg "__name__").getD .none) c' ctv)) (fun b u e => Heap.get?_push_of_some _ e) (Nat.le_refl _) (lamO_ok (Heap.get?_push_size _ rfl))
    exact h h'.objs.size c' H _ I2 (ExtN.refl H) hT (I.hok.fresh hsz) (nofr _ hsz) hco
end
section
variable {X : Cx} {pins : List (Addr × Obj)} {σ : L2.St} {H HZ : Hp} {s s1 : Shared}
theorem pe_actT {CXg : CXT} {Eg : XK} {Ng : List Str} {qg : Str} {sg : Scope} {g f c' : Addr} {cdg : Value} {params : Arguments} {body : Expr} {scope : Scope} {k i : Nat} {a : Str} {pn : List (Addr × Obj)} {xe : Value → Shared → Prop} {W : WX} {E : XK} {tb : TE} {p1 p2 : Pos}
    (I : Inv X pins σ H s) (L : LamS X.env.scope scope)
    (hbind : ∀ pm ctv : Value, bindArgs (PySem.W.kla_fn "<lambda>" (X.env.qual ++ "<lambda>") params body scope (cloFrom X.env.cells scope.names []) pm (.ref c') ctv) ⟨[], []⟩ = pure [])
    (tk : Takes ((cxOf CXg X.prog X.w X.K X.mg X.base Ng qg sg g cdg X.A X.stack s H Eg).tr pn xe) W) (hW : ∀ cls d σ' H', E cls d H' → W cls d σ' H') (hr : Room (k + 1) (X.A.deeper (envOfC qg sg s.heap.objs.size g cdg)))
    (hbody : ∀ (A : Around) (outer : List Env) (s : Shared) (H : Hp), Room k (A.deeper (lamEnv X scope s.heap.objs.size f c')) → PE (lamCx X A outer s H E scope f c') body tb)
    (hN : Ng[i]? = some a) (hv : Vis sg a) (hd : (a == ("__debug__" : Str)) = false := by decide) (hcd : (a == ("__classdict__" : Str)) = false := by decide) :
    PE ((cxOf CXg X.prog X.w X.K X.mg X.base Ng qg sg g cdg X.A X.stack s H Eg).tr pn xe) (.Call (.Name a p1) [] [] p2)
      (fun σZ HZ Q => σZ[i]? = some (some (.ref f)) ∧ HZ f = some (LamO f (X.env.qual ++ "<lambda>") params body scope (cloFrom X.env.cells scope.names []) c') ∧ HZ c' = some (CodeO c' (X.env.qual ++ "<lambda>")) ∧ tb σ HZ Q) := by
  refine ⟨fun pinsZ sZ σZ HZ Q IZ h => ?_⟩
  obtain ⟨hs, hlf, hc, ht⟩ := h
  refine wpAny_Call_Name_kw (thn ((pe_var (pos := p1) (i := i) hN hv hd hcd).run pinsZ sZ σZ HZ (fun v H1 => v = .ref f ∧ H1 = HZ) IZ ⟨.ref f, hs, rfl, rfl⟩) fun u s1 ⟨v, H1, I1, r1, q1⟩ => ?_)
  obtain ⟨ev, eH⟩ := q1
  subst ev
  rw [eH] at I1
  obtain rfl : u = Value.ref f := r1
  obtain ⟨⟨pm, ctv, of1⟩, _, _⟩ := I1.hok f _ hlf
  refine PySem.W.callWith_F0 ⟨_, _, _, _, of1⟩ ?_
  have un : Un (frs X.stack) [] H HZ s.heap s1.heap := I1.base
  obtain ⟨⟨oc, vs, t, hoc, hdc, hvc⟩, _, _⟩ := I1.hok c' _ hc
  have rc : codeAny (model X.prog X.w) (X.A.deeper (envOfC qg sg s.heap.objs.size g cdg)) (.call (.ref f) ⟨[], []⟩) (CR (L2.CX X.prog X.w) (envOfC qg sg s.heap.objs.size g cdg :: X.stack) X.prog X.w HZ s1 Q E) s1 := by
    refine PySem.W.kla_callFunE hr.depth of1 rfl L.co L.gen rfl ⟨c', oc, vs, t, rfl, hoc, hdc, hvc⟩ ?_
    rw [hbind pm ctv]
    refine wpAny_pure (wpAny_newFunctionEnv (fun y hy => (L.own y hy).2) (fun y hy => absurd hy (by simp)) (fun h₁ hns hsb => ⟨I1.nolimit.fresh _ hsb, ?_⟩) L.kind)
    show codeAny _ _ (.expr body (lamEnv X scope s1.heap.objs.size f c')) _ _
    have kp : ∀ b o, s1.heap.get? b = some o → h₁.get? b = some o := fun b o e => hsb.extBut b o (Nat.ne_of_lt (Heap.lt_size e)) (Heap.get?_push_of_some _ e)
    have J : Inv (lamCx X (X.A.deeper (envOfC qg sg s.heap.objs.size g cdg)) (envOfC qg sg s.heap.objs.size g cdg :: X.stack) s1 HZ E scope f c') [] σ HZ { s1 with heap := h₁, toks := s1.toks + ([] : List (Str × Value)).length } :=
      lam_start2 I L I1.env0 hr.hd un hns kp
    refine PySem.W.kla_codeExpr (wpAny_mono ((hbody _ _ s1 HZ (hr.deeper _)).run [] _ _ HZ Q J ht) (fun v s' hq => ?_) fun e s' hq => hq)
    obtain ⟨w', H', J', rv, q⟩ := hq
    exact ⟨w', H', J'.os, J'.bare, J'.base, J'.hok, rv, q⟩
  have hx : Passes (L2.CX X.prog X.w) ((cxOf CXg X.prog X.w X.K X.mg X.base Ng qg sg g cdg X.A X.stack s H Eg).tr pn xe) E := passes_call tk hW
  refine wpAny_call (codeAny_mono rc fun r s' hq => ?_)
  cases r with
  | error e => exact hx pinsZ σZ HZ s1 e s' I1 hq
  | ok fl =>
    cases fl with
    | ret u => exact I1.after hq
    | next => exact False.elim hq
    | brk => exact False.elim hq
    | cont => exact False.elim hq
end
end Dl

set_option Elab.async false
set_option linter.all false
set_option maxRecDepth 100000
set_option maxHeartbeats 2000000
/-! R9: lambdas made, kept, handed to a def that calls them. -/
namespace Dl
open PySem PySem.Spec PyProof.Rows L2 LamX
section
variable {X : Cx}
/-- lambda: body, as a value -/
def tLamT (T : List (Addr × Str)) (q : Str) (params : Arguments) (body : Expr) (scope : Scope) (clos : List (Str × Addr)) : TE := fun σ H Q => Tabs T H ∧ ∀ f c' H1, ExtN H H1 → Tabs T H1 → H1 f = none → H1 c' = some (CodeO c' q) → Q (.ref f) (upd H1 f (LamO f q params body scope clos c'))
theorem pe_lamT {T : List (Addr × Str)} {c P : Addr} {params : Arguments} {body : Expr} {scope : Scope} {pos : Pos} (TB : LamX.TabB X.base X.mg c P) (hcode : X.env.code = .ref c) (hm : (P, X.env.qual ++ "<lambda>") ∈ T) (hu : ∀ p ∈ T, p.1 = P → p.2 = X.env.qual ++ "<lambda>")
    (L : LamS X.env.scope scope) (hdef : defaultsOf params X.env = ([], [])) : PE X (.Lambda params body scope pos) (tLamT T (X.env.qual ++ "<lambda>") params body scope (cloFrom X.env.cells scope.names [])) :=
  ⟨fun pins s σ H Q I ⟨hT, h⟩ => lam_make3 I TB hcode hm hu hT hdef (L.has I.ok) fun f c' H1 s' I1 eN T1 hf hfr hco => ⟨.ref f, _, I1, rfl, h f c' H1 eN T1 hf hco⟩⟩
/-- the lambda at f, kept, and what it reads as -/
structure LamK (X : Cx) (k : Nat) (f c' : Addr) (params : Arguments) (body : Expr) (scope : Scope) (t : XK → TE) : Prop where
  L : LamS X.env.scope scope
  bind : ∀ pm ctv : Value, bindArgs (PySem.W.kla_fn "<lambda>" (X.env.qual ++ "<lambda>") params body scope (cloFrom X.env.cells scope.names []) pm (.ref c') ctv) ⟨[], []⟩ = pure []
  run : ∀ (A : Around) (outer : List Env) (s : Shared) (H : Hp) (E : XK), Room k (A.deeper (lamEnv X scope s.heap.objs.size f c')) → PE (lamCx X A outer s H E scope f c') body (t E)
/-- the def that calls what it got: a calls it; TT: what it makes of the lambda's reading; Kf: that the lambda stands -/
def GivesT (X : Cx) (Ng : List Str) (x : Str) (sg : Scope) (g : Addr) (cdg : Value) (bg : List Stmt) (a : Str) (TT : (XK → Hp → VK → Prop) → Hp → VK → Prop) : Prop :=
  ∀ (f : Addr) (Kf : Hp → Prop) (s : Shared) (H : Hp) (Q : VK) (tl : XK → Hp → VK → Prop),
    (∀ (W : WX) (pn : List (Addr × Obj)) (xe : Value → Shared → Prop) (E : XK) (p1 p2 : Pos), Takes ((cxOf CX0 X.prog X.w X.K X.mg X.base Ng x sg g cdg X.A X.stack s H E0).tr pn xe) W → (∀ cls d σ' H', E cls d H' → W cls d σ' H') →
      PE ((cxOf CX0 X.prog X.w X.K X.mg X.base Ng x sg g cdg X.A X.stack s H E0).tr pn xe) (.Call (.Name a p1) [] [] p2) (fun σZ HZ Q => σZ[0]? = some (some (.ref f)) ∧ Kf HZ ∧ tl E HZ Q)) →
    Kf H → TT tl H Q →
    ∃ t, PSs (cxOf CX0 X.prog X.w X.K X.mg X.base Ng x sg g cdg X.A X.stack s H E0).nox bg t ∧ t { nx := fun _ H' => Q .non H', rt := Q } (L2.start Ng [.ref f]) H
def tLamCall (X : Cx) (k : Nat) (TT : (XK → Hp → VK → Prop) → Hp → VK → Prop) (ta : TE) : TE := fun σ H Q => ta σ H fun v H1 => ∃ f c' params body scope t, v = .ref f ∧ LamK X k f c' params body scope t ∧
  H1 f = some (LamO f (X.env.qual ++ "<lambda>") params body scope (cloFrom X.env.cells scope.names []) c') ∧ H1 c' = some (CodeO c' (X.env.qual ++ "<lambda>")) ∧ TT (fun E H' Q' => t E σ H' Q') H1 Q
/-- x(e), e a lambda that is kept -/
theorem pe_lamCallT {TT : (XK → Hp → VK → Prop) → Hp → VK → Prop} {x a : Str} {g : Addr} {k : Nat} {pg : Arguments} {bg : List Stmt} {sg : Scope} {dV kV doc pm cdv ct oc : Value} {an od : Option Addr} {osl : Array (Option Value)} {Ng : List Str} {e : Expr} {ta : TE} {p pos : Pos}
    (hg : Gl X x) (hm : X.mg x = some (.ref g)) (hk : PySem.W.keepIn X.K (.ref g) = true)
    (lk : X.K.lookup g = some ⟨oc, od, .func (PySem.W.fnOf x x pg bg sg dV kV doc pm an cdv ct), osl⟩) (hcg : PySem.W.codeIn X.K cdv x = true) (hb : L2.Binds X.K (PySem.W.fnOf x x pg bg sg dV kV doc pm an cdv ct) [a] []) (Sg : FnScope Ng [a] sg) (hNg : Ng[0]? = some a) (hva : Vis sg a)
    (hG : GivesT X Ng x sg g cdv bg a TT) (hr : Room (k + 2) X.A) (he : PE X e ta) (hs : starEach [e] X.env = (false, eval e X.env) :: starEach [] X.env := by rfl)
    (hdb : (x == ("__debug__" : Str)) = false := by decide) (hd : (a == ("__debug__" : Str)) = false := by decide) (hcd : (a == ("__classdict__" : Str)) = false := by decide) :
    PE X (.Call (.Name x p) [e] [] pos) (tLamCall X k TT ta) := by
  refine ⟨fun pins s σ H Q I h => ?_⟩
  refine wpAny_Call_Name_kw (ld_glob I hg hm ?_ hdb)
  refine PySem.W.callWith_K (h₀ := X.base) I.ok.mod.kin hk ?_ hs (by rfl)
  rw [hs]
  show wpAny _ _ (spliced ((false, eval e X.env) :: backTo pos (starEach [] X.env))) _ _ s
  refine Calls.spliced_cons (thn (he.run pins s σ H _ I h) fun u s' ⟨v, H1, I1, r1, f, c', params, body, scope, t, ev, LK, hlf, hco, htt⟩ => ?_)
  subst ev
  obtain rfl : u = Value.ref f := r1
  refine Calls.spliced_nil ⟨I1.kIn, ?_⟩
  have rc : codeAny (model X.prog X.w) X.A (.call (.ref g) ⟨[.ref f], []⟩) (CR CX0 X.stack X.prog X.w H1 s' Q E0) s' := by
    refine run_ofS (N := Ng) (ps := [a]) (us := [.ref f]) (vs := [.ref f]) lk hcg Sg hr I1.env0 (hb s' [.ref f] I1.kIn rfl) (.cons rfl .nil) rfl fun hr' => ?_
    obtain ⟨t', ht', hq'⟩ := hG f (fun HZ => HZ f = some (LamO f (X.env.qual ++ "<lambda>") params body scope (cloFrom X.env.cells scope.names []) c') ∧ HZ c' = some (CodeO c' (X.env.qual ++ "<lambda>"))) s' H1 Q (fun E H' Q' => t E σ H' Q')
      (fun W pn xe E p1 p2 tk hW => ⟨fun pins s σ H Q I h => (pe_actT (i := 0) (p1 := p1) (p2 := p2) I1 LK.L LK.bind tk hW hr' (fun A outer s H hr2 => LK.run A outer s H E hr2) hNg hva hd hcd).run pins s σ H Q I ⟨h.1, h.2.1.1, h.2.1.2, h.2.2⟩⟩) ⟨hlf, hco⟩ htt
    exact ⟨t', ht'.nox, hq'⟩
  refine wpAny_call (codeAny_mono rc fun r s2 hq => ?_)
  cases r with
  | error e => exact (show False from hq).elim
  | ok fl =>
    cases fl with
    | ret u => exact I1.after hq
    | next => exact False.elim hq
    | brk => exact False.elim hq
    | cont => exact False.elim hq
end
end Dl

set_option Elab.async false
set_option linter.all false
set_option maxRecDepth 100000
set_option maxHeartbeats 1000000
namespace Dl
open PySem PySem.Spec PyProof.Rows L2
local macro_rules | `(tactic| wtm_at "d") => `(tactic| first
  | with_reducible refine sd_seq ?_ | with_reducible refine sd_if ?_ | with_reducible refine sd_ret ?_
  | with_reducible refine evp_op ?_ | with_reducible refine evp_un ?_ | with_reducible refine evp_cb ?_ | with_reducible refine evp_tupD ?_
  | with_reducible refine evp_andV ?_ | with_reducible refine evp_orV ?_ | with_reducible refine evp_notV ?_ | with_reducible refine evp_if ?_
  | with_reducible refine evt_test ?_ | with_reducible refine evt_B ?_ | with_reducible refine evt_and ?_ | with_reducible refine evt_or ?_ | with_reducible refine evt_not ?_
  | with_reducible refine eva_cons ?_ | with_reducible refine eva_nil ?_
  | with_reducible refine evp_int ?_ | with_reducible refine evp_str ?_ | with_reducible refine evp_bl ?_ | with_reducible refine evp_non ?_ | with_reducible refine evp_any ?_
  | (with_reducible refine evp_isv ?_; refine evp_dat rfl ?_)
  | with_reducible refine evp_callP ?_ | with_reducible refine evp_chain ?_
  | with_reducible refine sd_next ?_
  | with_reducible refine opp_add ?_ | with_reducible refine opp_sub ?_ | with_reducible refine opp_lt ?_ | with_reducible refine opp_le ?_ | with_reducible refine opp_gt ?_ | with_reducible refine opp_ge ?_
  | with_reducible refine opp_isN ?_ | with_reducible refine opp_notN ?_ | with_reducible refine unp_neg ?_
  | with_reducible refine ex_bl ?_ | with_reducible refine ex_dat ?_ | with_reducible refine ex_int ?_)
local macro_rules | `(tactic| wtm_at "e") => `(tactic| first | wtm_at "d" | with_reducible refine sd_set ?_)
variable {P : Program} {w : World} {K : PySem.W.Frag} {mg : Str → Option Value} {base : Heap} {A : Ads}
open LamX
/-! _law_refused -/
/-- the text, its errors, and what the law's end asks of them -/
structure TxL (P : Program) (K : PySem.W.Frag) (mg : Str → Option Value) (A : Ads) : Prop extends Txe P K mg A where
  n_abs : mg "abs" = none
  x_size : XfC K A.InvalidSize
  x_plan : XfC K A.InvalidPlan
  w_size : PySem.W.findIn K (.ref A.InvalidSize) "word" = some none
  w_plan : PySem.W.findIn K (.ref A.InvalidPlan) "at" = some none
  m_ss : PySem.W.exmOne K (.ref A.InvalidSize) (.ref A.InvalidSize) = some true
  m_ps : PySem.W.exmOne K (.ref A.InvalidPlan) (.ref A.InvalidSize) = some false
  m_pp : PySem.W.exmOne K (.ref A.InvalidPlan) (.ref A.InvalidPlan) = some true
/-- what _law_refused makes of an exception -/
def refX (A : Ads) (Q : VK) : XK := fun cls d H =>
  (cls = .ref A.InvalidSize ∧ ∃ (dd : Addr) (v : V), d = some dd ∧ H dd = some (.xd [(("word" : Str), v)]) ∧ ∀ p, H p = none → Q (.ref p) (upd H p (.tup [.str ("size" : Str), v]))) ∨
  (cls = .ref A.InvalidPlan ∧ ∃ (dd : Addr) (v : V), d = some dd ∧ H dd = some (.xd [(("at" : Str), v)]) ∧ ∀ p, H p = none → Q (.ref p) (upd H p (.tup [.str ("plan" : Str), v])))
def TTref (A : Ads) : (XK → Hp → VK → Prop) → Hp → VK → Prop := fun tl H Q => tl (refX A Q) H fun _ H' => [V.str ("none" : Str)].length ≤ sizeLine ∧ ∀ p, H' p = none → Q (.ref p) (upd H' p (.tup [.str ("none" : Str)]))
theorem takes_len {X : Cx} {W : WX} (tk : Takes X W) : Takes X (fun cls d σ' H' => σ'.length = X.N.length → W cls d σ' H') := fun e s ⟨a, B, sI, pins', σ', H', cls, d, he, J, nb, up, sky, na, os, ag, w⟩ =>
  tk e s ⟨a, B, sI, pins', σ', H', cls, d, he, J, nb, up, sky, na, os, ag, w J.len⟩
theorem refused_gives {X : Cx} {cdg : Value} (T : TxL X.prog X.K X.mg A) : GivesT X N__law_refused "_law_refused" (defScope s__law_refused) A._law_refused cdg (defBody s__law_refused) "_law_work" (TTref A) := by
  intro f Kf s H Q tl act hK h
  refine ⟨_, pss_cons (ps_try_manyA (X := (cxOf CX0 X.prog X.w X.K X.mg X.base N__law_refused "_law_refused" (defScope s__law_refused) A._law_refused cdg X.A X.stack s H E0).nox)
      (tb := fun W D σ H => ∃ Ech : XK, (∀ cls d (σ' : L2.St) H', Ech cls d H' → σ'.length = 2 → W cls d σ' H') ∧ σ[0]? = some (some (.ref f)) ∧ Kf H ∧ tl Ech H fun _ H' => D.nx σ H')
      sc__law_refused.nd rfl rfl LamX.takes0 (fun W pn xe tk _ => ?_)
      (.consA (i := 1) rfl rfl ⟨rfl, by decide, .inl T.g_InvalidSize⟩ (fun a oe cls d pn hz hf => pss_one (ps_ret (pe_tup (pa_cons pe_str (pa_cons (pe_xf T.x_size T.w_size hz hf (pv 1)) pa_nil)))))
        (.consA (i := 1) rfl rfl ⟨rfl, by decide, .inl T.g_InvalidPlan⟩ (fun a oe cls d pn hz hf => pss_one (ps_ret (pe_tup (pa_cons pe_str (pa_cons (pe_xf T.x_plan T.w_plan hz hf (pv 1)) pa_nil)))))
          (.cons ⟨rfl, by decide, .inl T.g_MergeError⟩ (fun a oe cls d pn hz hf => pss_one (ps_ret (pe_tup (pa_cons pe_str pa_nil)))) .nil))))
      (pss_one (ps_ret (pe_tup (pa_cons pe_str pa_nil)))), ?_⟩
  · refine ⟨fun pins s' σ H' D I h' => ?_⟩
    obtain ⟨Ech, hW, h1, h2, h3⟩ := h'
    exact (pss_one (ps_expr (act _ pn xe Ech _ _ (takes_len tk) (fun cls d σ' H' he hl => hW cls d σ' H' he hl)))).run pins s' σ H' D I ⟨h1, h2, h3⟩
  · refine ⟨refX A Q, fun cls d σ' H' hx hl => ?_, rfl, hK, ?_⟩
    · rcases hx with ⟨rfl, dd, v, rfl, hd, q⟩ | ⟨rfl, dd, v, rfl, hd, q⟩
      · refine ⟨true, T.m_ss, fun _ a ha => ?_, fun h => Bool.noConfusion h⟩
        exact ⟨.ref a, by rw [List.getElem?_set_self (by omega)], rfl, rfl, dd, _, v, rfl, hd, rfl, by show 2 ≤ sizeLine; decide, fun p hp => q p hp⟩
      · refine ⟨false, T.m_ps, fun h => Bool.noConfusion h, fun _ => ⟨true, T.m_pp, fun _ a ha => ?_, fun h => Bool.noConfusion h⟩⟩
        exact ⟨.ref a, by rw [List.getElem?_set_self (by omega)], rfl, rfl, dd, _, v, rfl, hd, rfl, by show 2 ≤ sizeLine; decide, fun p hp => q p hp⟩
    · exact h
end Dl

set_option Elab.async false
set_option linter.all false
set_option maxRecDepth 100000
set_option maxHeartbeats 1000000
namespace Dl
open PySem PySem.Spec PyProof.Rows L2
local macro_rules | `(tactic| wtm_at "d") => `(tactic| first
  | with_reducible refine sd_seq ?_ | with_reducible refine sd_if ?_ | with_reducible refine sd_ret ?_
  | with_reducible refine evp_op ?_ | with_reducible refine evp_un ?_ | with_reducible refine evp_cb ?_ | with_reducible refine evp_tupD ?_
  | with_reducible refine evp_andV ?_ | with_reducible refine evp_orV ?_ | with_reducible refine evp_notV ?_ | with_reducible refine evp_if ?_
  | with_reducible refine evt_test ?_ | with_reducible refine evt_B ?_ | with_reducible refine evt_and ?_ | with_reducible refine evt_or ?_ | with_reducible refine evt_not ?_
  | with_reducible refine eva_cons ?_ | with_reducible refine eva_nil ?_
  | with_reducible refine evp_int ?_ | with_reducible refine evp_str ?_ | with_reducible refine evp_bl ?_ | with_reducible refine evp_non ?_ | with_reducible refine evp_any ?_
  | (with_reducible refine evp_isv ?_; refine evp_dat rfl ?_)
  | with_reducible refine evp_callP ?_ | with_reducible refine evp_chain ?_
  | with_reducible refine sd_next ?_
  | with_reducible refine opp_add ?_ | with_reducible refine opp_sub ?_ | with_reducible refine opp_lt ?_ | with_reducible refine opp_le ?_ | with_reducible refine opp_gt ?_ | with_reducible refine opp_ge ?_
  | with_reducible refine opp_isN ?_ | with_reducible refine opp_notN ?_ | with_reducible refine unp_neg ?_
  | with_reducible refine ex_bl ?_ | with_reducible refine ex_dat ?_ | with_reducible refine ex_int ?_)
local macro_rules | `(tactic| wtm_at "e") => `(tactic| first | wtm_at "d" | with_reducible refine sd_set ?_)
variable {P : Program} {w : World} {K : PySem.W.Frag} {mg : Str → Option Value} {base : Heap} {A : Ads}
open LamX
/-! the lambdas of _law_refusals -/
theorem KBinds.all {fd : FuncData} {ps ks : List Str} {g : List Value → List Value → List Value} {gV : List V → List V → List V} (h : ∀ us ws : List Value, (g us ws).length = ps.length → bindArgs fd ⟨us, ks.zip ws⟩ = pure (ps.zip (g us ws)))
    (rel : ∀ {vs : List V} {us : List Value} {zs : List V} {ws : List Value}, Vals vs us → Vals zs ws → Vals (gV vs zs) (g us ws)) : KBinds K fd ps ks g gV := ⟨fun s us ws _ hl => .of_eq (h us ws hl), rel⟩
/-- elder_plan(counts=..) -/
theorem kb_elder_plan {fd : FuncData} (F : Fun K "elder_plan" "elder_plan" s_elder_plan A.elder_plan fd) : KBinds K fd ["counts"] ["counts"] (fun us ws => us ++ ws) (fun vs zs => vs ++ zs) := by
  obtain ⟨oc, od, kV, doc, pm, an, cdv, ct, osl, rfl, lk, hcd⟩ := F.ex
  refine KBinds.all (fun us ws hl => ?_) (fun r rz => r.append rz)
  match us, ws, hl with
  | [], [w], _ => rfl
  | [u], [], _ => rfl
  | [u], _ :: _, h => exact absurd h (by simp)
  | [], [], h => exact absurd h (by simp)
  | [], _ :: _ :: _, h => exact absurd h (by simp)
  | _ :: _ :: _, ws, h => exact absurd h (by simp)
theorem Vals.rev {zs : List V} {ws : List Value} (h : Vals zs ws) : Vals zs.reverse ws.reverse := by
  induction h with
  | nil => exact .nil
  | cons r t ih => rw [List.reverse_cons, List.reverse_cons]; exact ih.append (.cons r .nil)
/-- elder_fault(plan=.., many=..) -/
theorem kb_elder_fault2 {fd : FuncData} (F : Fun K "elder_fault" "elder_fault" s_elder_fault A.elder_fault fd) : KBinds K fd ["many", "plan"] ["plan", "many"] (fun us ws => us ++ ws.reverse) (fun vs zs => vs ++ zs.reverse) := by
  obtain ⟨oc, od, kV, doc, pm, an, cdv, ct, osl, rfl, lk, hcd⟩ := F.ex
  refine KBinds.all (fun us ws hl => ?_) (fun r rz => r.append (Vals.rev rz))
  match us, ws, hl with
  | [], [w1, w2], _ => rfl
  | [u], [w], _ => rfl
  | [u1, u2], [], _ => rfl
  | [], [], h => exact absurd h (by simp)
  | [], [_], h => exact absurd h (by simp)
  | [], _ :: _ :: _ :: _, h => exact absurd h (by simp)
  | [u], [], h => exact absurd h (by simp)
  | [u], _ :: _ :: _, h => exact absurd h (by simp)
  | [_, _], _ :: _, h => exact absurd h (by simp)
  | _ :: _ :: _ :: _, ws, h => exact absurd h (by simp)
theorem Vals.take1 {zs : List V} {ws : List Value} (h : Vals zs ws) : Vals (zs.take 1) (ws.take 1) := by
  cases h with
  | nil => exact .nil
  | cons r t => exact .cons r .nil
/-- elder_fault(.., plan=..) -/
theorem kb_elder_fault1 {fd : FuncData} (F : Fun K "elder_fault" "elder_fault" s_elder_fault A.elder_fault fd) : KBinds K fd ["many", "plan"] ["plan"] (fun us ws => us ++ ws.take 1) (fun vs zs => vs ++ zs.take 1) := by
  obtain ⟨oc, od, kV, doc, pm, an, cdv, ct, osl, rfl, lk, hcd⟩ := F.ex
  refine KBinds.all (fun us ws hl => ?_) (fun r rz => r.append (Vals.take1 rz))
  match us, ws, hl with
  | [u], w :: ws, _ => rfl
  | [u1, u2], [], _ => rfl
  | [], [], h => exact absurd h (by simp)
  | [], _ :: _, h => exact absurd h (by simp)
  | [u], [], h => exact absurd h (by simp)
  | [_, _], _ :: _, h => exact absurd h (by simp)
  | _ :: _ :: _ :: _, ws, h => exact absurd h (by simp)
section
variable {X : Cx} {A' : Around} {outer : List Env} {s : Shared} {H : Hp} {E : XK} {scope : Scope} {f c' : Addr}
theorem lam_pass {k : Nat} : Passes (L2.CX X.prog X.w) (lamCx X A' outer s H E scope f c') E := passes_call (takes_of rfl rfl rfl rfl) (fun _ _ _ _ h => h)
end
end Dl

set_option Elab.async false
set_option linter.all false
set_option maxRecDepth 100000
set_option maxHeartbeats 1000000
namespace Dl
open PySem PySem.Spec PyProof.Rows L2
local macro_rules | `(tactic| wtm_at "d") => `(tactic| first
  | with_reducible refine sd_seq ?_ | with_reducible refine sd_if ?_ | with_reducible refine sd_ret ?_
  | with_reducible refine evp_op ?_ | with_reducible refine evp_un ?_ | with_reducible refine evp_cb ?_ | with_reducible refine evp_tupD ?_
  | with_reducible refine evp_andV ?_ | with_reducible refine evp_orV ?_ | with_reducible refine evp_notV ?_ | with_reducible refine evp_if ?_
  | with_reducible refine evt_test ?_ | with_reducible refine evt_B ?_ | with_reducible refine evt_and ?_ | with_reducible refine evt_or ?_ | with_reducible refine evt_not ?_
  | with_reducible refine eva_cons ?_ | with_reducible refine eva_nil ?_
  | with_reducible refine evp_int ?_ | with_reducible refine evp_str ?_ | with_reducible refine evp_bl ?_ | with_reducible refine evp_non ?_ | with_reducible refine evp_any ?_
  | (with_reducible refine evp_isv ?_; refine evp_dat rfl ?_)
  | with_reducible refine evp_callP ?_ | with_reducible refine evp_chain ?_
  | with_reducible refine sd_next ?_
  | with_reducible refine opp_add ?_ | with_reducible refine opp_sub ?_ | with_reducible refine opp_lt ?_ | with_reducible refine opp_le ?_ | with_reducible refine opp_gt ?_ | with_reducible refine opp_ge ?_
  | with_reducible refine opp_isN ?_ | with_reducible refine opp_notN ?_ | with_reducible refine unp_neg ?_
  | with_reducible refine ex_bl ?_ | with_reducible refine ex_dat ?_ | with_reducible refine ex_int ?_)
local macro_rules | `(tactic| wtm_at "e") => `(tactic| first | wtm_at "d" | with_reducible refine sd_set ?_)
variable {P : Program} {w : World} {K : PySem.W.Frag} {mg : Str → Option Value} {base : Heap} {A : Ads}
open LamX
/-! the lambdas of _law_refusals, each read -/
def lamIn : Stmt → Expr
  | .Assign _ (.List (.Tuple (e :: _) _ _ :: _) _) _ => e
  | .Expr (.Call _ (.Tuple (e :: _) _ _ :: _) _ _) _ => e
  | _ => .Constant .none 0 ⟨0, 0, 0, 0⟩
def lamE (i : Nat) : Expr := lamIn ((defBody s__law_refusals).getD (2 + i) (.Pass ⟨0, 0, 0, 0⟩))
def lPar : Expr → Arguments
  | .Lambda a _ _ _ => a
  | _ => ⟨[], [], none, [], [], none, []⟩
def lBody : Expr → Expr
  | .Lambda _ b _ _ => b
  | e => e
def lScope : Expr → Scope
  | .Lambda _ _ s _ => s
  | _ => defScope (.Pass ⟨0, 0, 0, 0⟩)
/-- where _law_refusals runs -/
abbrev rX (P : Program) (w : World) (K : PySem.W.Frag) (mg : Str → Option Value) (base : Heap) (f c : Addr) (B : Around) (outer : List Env) (s : Shared) (H : Hp) (E : XK) : Cx :=
  (cxOf CX0 P w K mg base N__law_refusals "_law_refusals" (defScope s__law_refusals) f (.ref c) B outer s H E).nox
abbrev lt1 (A : Ads) (E : XK) : TE := tCall (spE NoM AnyJ (c_elder_plan A)) [] E (tCons (tVar 6) tNil)
abbrev lt2 (A : Ads) (E : XK) : TE := tCall (spE NoM AnyJ (c_elder_fault A)) [] E (tCons (tVar 1) (tCons (tVar 7) tNil))
abbrev lt3 (A : Ads) (E : XK) : TE := tCallK0 (spE NoM AnyJ (c_elder_fault A)) (fun vs zs => vs ++ zs.reverse) E
  (tCons (tVar 7) (tCons (tCall (spD c__law_of) [] E0 (tCons (tVar 0) (tCons (tLst (tCons (tC (.int 0)) (tCons (tC (.int 13)) (tCons (tC .non) tNil)))) tNil))) tNil))
abbrev lt4 (A : Ads) (E : XK) : TE := tCallK0 (spE NoM AnyJ (c_elder_plan A)) (fun vs zs => vs ++ zs) E
  (tCons (tTup (tCons (tC (.int 3)) (tCons (tC (.int 0)) (tCons (tC (.int 3)) (tCons (tC (.int 0)) (tCons (tC (.int 3)) tNil)))))) tNil)
section
variable {f c g c' : Addr} {B : Around} {outer : List Env} {s : Shared} {H : Hp} {E : XK}
theorem lam1 (T : TxL P K mg A) : LamK (rX P w K mg base f c B outer s H E) 6 g c' (lPar (lamE 0)) (lBody (lamE 0)) (lScope (lamE 0)) (lt1 A) := by
  obtain ⟨k_elder_plan, fd_elder_plan, G_elder_plan, B_elder_plan⟩ := ok_elder_plan (P := P) (w := w) (base := base) T.toTxe
  refine ⟨lamS_by (show lamSB (defScope s__law_refusals) (lScope (lamE 0)) = true by decide +kernel), fun _ _ => rfl, fun A' outer' s' H' E' hr => ?_⟩
  exact pe_call G_elder_plan (hr.mono (by decide)) (by rfl) T.g_elder_plan k_elder_plan B_elder_plan .nil (lam_pass (k := 0)) (pa_cons (pv 6) pa_nil)
theorem lam2 (T : TxL P K mg A) : LamK (rX P w K mg base f c B outer s H E) 6 g c' (lPar (lamE 1)) (lBody (lamE 1)) (lScope (lamE 1)) (lt2 A) := by
  obtain ⟨k_elder_fault, fd_elder_fault, G_elder_fault, B_elder_fault⟩ := ok_elder_fault (P := P) (w := w) (base := base) T.toTxe
  refine ⟨lamS_by (show lamSB (defScope s__law_refusals) (lScope (lamE 1)) = true by decide +kernel), fun _ _ => rfl, fun A' outer' s' H' E' hr => ?_⟩
  exact pe_call G_elder_fault (hr.mono (by decide)) (by rfl) T.g_elder_fault k_elder_fault B_elder_fault .nil (lam_pass (k := 0)) (pa_cons (pv 1) (pa_cons (pv 7) pa_nil))
theorem lam3 (T : TxL P K mg A) : LamK (rX P w K mg base f c B outer s H E) 6 g c' (lPar (lamE 2)) (lBody (lamE 2)) (lScope (lamE 2)) (lt3 A) := by
  obtain ⟨k_elder_fault, fd_elder_fault, F, G_elder_fault, _⟩ := okF_elder_fault (P := P) (w := w) (base := base) T.toTxe
  obtain ⟨k__law_of, fd__law_of, G__law_of, B__law_of⟩ := ok__law_of (P := P) (w := w) (base := base) T.toTxt
  refine ⟨lamS_by (show lamSB (defScope s__law_refusals) (lScope (lamE 2)) = true by decide +kernel), fun _ _ => rfl, fun A' outer' s' H' E' hr => ?_⟩
  exact pe_callK0 G_elder_fault (hr.mono (by decide)) (by rfl) T.g_elder_fault k_elder_fault (kb_elder_fault2 F) (lam_pass (k := 0)) (pk_cons (pv 7) (pk_cons
    (pe_call G__law_of (hr.mono (by decide)) (by rfl) T.g__law_of k__law_of B__law_of .nil pass0 (pa_cons (pv 0) (pa_cons (pe_lst (pa_cons pe_int (pa_cons pe_int (pa_cons pe_non pa_nil)))) pa_nil))) pk_nil))
theorem lam4 (T : TxL P K mg A) : LamK (rX P w K mg base f c B outer s H E) 6 g c' (lPar (lamE 3)) (lBody (lamE 3)) (lScope (lamE 3)) (lt4 A) := by
  obtain ⟨k_elder_plan, fd_elder_plan, F, G_elder_plan, _⟩ := okF_elder_plan (P := P) (w := w) (base := base) T.toTxe
  refine ⟨lamS_by (show lamSB (defScope s__law_refusals) (lScope (lamE 3)) = true by decide +kernel), fun _ _ => rfl, fun A' outer' s' H' E' hr => ?_⟩
  exact pe_callK0 G_elder_plan (hr.mono (by decide)) (by rfl) T.g_elder_plan k_elder_plan (kb_elder_plan F) (lam_pass (k := 0)) (pk_cons (pe_tup (pa_cons pe_int (pa_cons pe_int (pa_cons pe_int (pa_cons pe_int (pa_cons pe_int pa_nil)))))) pk_nil)
end
/-! what _law_refused makes of them -/
section
variable {W : Wd} {ρ : List Slot} {C : List Slot → (DD → Prop) → ErrP → Prop} {E : XK} {t : TA} {σ : L2.St} {G H : Hp} {Q : VK}
theorem evq_call (S : St W G H σ ρ) (R : DD → Prop) (RE : ErrP) (h : EvA W t ρ fun ss => okArgs ss = true ∧ C (ss.map toArg) R RE) (hQ : ∀ v G2 H2 d, W.Go G H G2 H2 → Rp G2 v d → R d → Q v H2)
    (hE : ∀ cls f x dv p G2 H2, W.Go G H G2 H2 → H2 p = some (.xd [(f, x)]) → Rp G2 x dv → RE cls f dv → E (.ref cls) (some p) H2) : tCall (spE NoM AnyJ C) [] E t σ H Q :=
  h σ G H S _ fun xs G1 H1 ss f1 v1 ⟨ho, hc⟩ => by
    have c := S.cur.trans f1
    refine ⟨G1, ss.map toArg, R, RE, f1.gh, trivial, (fun _ z => z.elim), ?_, hc, fun v G2 H2 d f2 rv p => ?_, fun cls f x dv p G2 H2 f2 hp rx re => ?_⟩
    · rw [List.append_nil]
      exact args_ok (fun _ z => z.elim) v1 (okArgs_all ho)
    · exact hQ v G2 H2 d (f1.trans (Fr.lift c f2)) rv p
    · exact hE cls f x dv p G2 H2 (f1.trans (Fr.lift c f2)) hp rx re
theorem evq_callK0 {gV : List V → List V → List V} {gS : List Slot → List Slot} (hg : ∀ (R : V → Slot → Prop) (xs : List V) (ss : List Slot), Paired R xs ss → Paired R (gV [] xs) (gS ss)) (S : St W G H σ ρ) (R : DD → Prop) (RE : ErrP)
    (h : EvA W t ρ fun ss => okArgs (gS ss) = true ∧ C ((gS ss).map toArg) R RE) (hQ : ∀ v G2 H2 d, W.Go G H G2 H2 → Rp G2 v d → R d → Q v H2)
    (hE : ∀ cls f x dv p G2 H2, W.Go G H G2 H2 → H2 p = some (.xd [(f, x)]) → Rp G2 x dv → RE cls f dv → E (.ref cls) (some p) H2) : tCallK0 (spE NoM AnyJ C) gV E t σ H Q :=
  h σ G H S _ fun xs G1 H1 ss f1 v1 ⟨ho, hc⟩ => by
    have c := S.cur.trans f1
    refine ⟨G1, (gS ss).map toArg, R, RE, f1.gh, trivial, (fun _ z => z.elim), ?_, hc, fun v G2 H2 d f2 rv p => ?_, fun cls f x dv p G2 H2 f2 hp rx re => ?_⟩
    · exact args_ok (fun _ z => z.elim) (hg _ _ _ v1) (okArgs_all ho)
    · exact hQ v G2 H2 d (f1.trans (Fr.lift c f2)) rv p
    · exact hE cls f x dv p G2 H2 (f1.trans (Fr.lift c f2)) hp rx re
/-- _law_refused tells due of what reads as tl -/
def Says (W : Wd) (ρ : List Slot) (A : Ads) (tl : XK → TE) (due : List DD) : Prop := ∀ σ G H, St W G H σ ρ → ∀ Q : VK, (∀ x G2 H2, W.Go G H G2 H2 → Rp G2 x (.tup due) → Q x H2) → TTref A (fun E H' Q' => tl E σ H' Q') H Q
theorem says_size {x : Str} (S : St W G H σ ρ) (q : ∀ y G2 H2, W.Go G H G2 H2 → Rp G2 y (.tup [.str ("size" : Str), .str x]) → Q y H2) : ∀ cls f y dv p G2 H2, W.Go G H G2 H2 → H2 p = some (.xd [(f, y)]) → Rp G2 y dv → (cls = A.InvalidSize ∧ f = ("word" : Str) ∧ dv = .str x) → refX A Q (.ref cls) (some p) H2 := by
  rintro cls f y dv p G2 H2 g hp rx ⟨rfl, rfl, rfl⟩
  cases rx
  exact .inl ⟨rfl, p, _, rfl, hp, fun p' hp' => q _ _ _ (g.trans (W.new (S.cur.trans g) hp')) (Rp.tup upd_same (.cons (.str _) (.cons (.str _) .nil)))⟩
theorem says_plan {n : Int} (S : St W G H σ ρ) (q : ∀ y G2 H2, W.Go G H G2 H2 → Rp G2 y (.tup [.str ("plan" : Str), .int n]) → Q y H2) : ∀ cls f y dv p G2 H2, W.Go G H G2 H2 → H2 p = some (.xd [(f, y)]) → Rp G2 y dv → (cls = A.InvalidPlan ∧ f = ("at" : Str) ∧ dv = .int n) → refX A Q (.ref cls) (some p) H2 := by
  rintro cls f y dv p G2 H2 g hp rx ⟨rfl, rfl, rfl⟩
  cases rx
  exact .inr ⟨rfl, p, _, rfl, hp, fun p' hp' => q _ _ _ (g.trans (W.new (S.cur.trans g) hp')) (Rp.tup upd_same (.cons (.str _) (.cons (.int _) .nil)))⟩
/-- counts that are refused -/
def OddOk (d : DD) : Prop := ∃ k, kdD d = some k ∧ ((decide (k = .lst) || decide (k = .tup)) = true → ∃ es, (d = .lst es ∨ d = .tup es) ∧ (∀ x ∈ es, ∃ kd, kdD x = some kd) ∧ badC es)
theorem nat_inj {a b : List Nat} (h : a.map (fun c : Nat => DD.int (c : Int)) = b.map fun c : Nat => DD.int (c : Int)) : a = b := List.map_inj_right (fun x y z => Int.ofNat.inj (DD.int.inj z)) |>.mp h
theorem badC_no {cs : List Nat} (h1 : 1 ≤ cs.length) (h5 : cs.length ≤ 5) (h9 : cs.sum ≤ 9) : ¬ badC (cs.map fun c : Nat => .int (c : Int)) := by
  rintro (h | h | h | ⟨cs', e, h⟩)
  · rw [List.length_map] at h; omega
  · rw [List.length_map] at h; omega
  · have : ((cs.map fun c : Nat => DD.int (c : Int)).all numD) = true := by
      rw [List.all_map, List.all_eq_true]
      intro x _
      exact decide_eq_true (Int.natCast_nonneg x)
    rw [this] at h; cases h
  · have := nat_inj e
    subst this; omega
theorem says1 {d : DD} (h6 : ρ[6]? = some (.dat d)) (hd : OddOk d) : Says W ρ A (lt1 A) [.str ("size" : Str), .str ("counts" : Str)] := by
  intro σ G H S Q q
  show lt1 A (refX A Q) σ H _
  obtain ⟨k, hk, hs⟩ := hd
  refine evq_call S (fun _ => False) (fun cls f d => cls = A.InvalidSize ∧ f = ("word" : Str) ∧ d = .str ("counts" : Str)) ?_ (fun _ _ _ _ _ _ z => z.elim) (says_size S q)
  refine eva_cons (evp_dat h6 (eva_nil ⟨rfl, _, k, rfl, hk, fun _ => ⟨rfl, rfl, rfl⟩, fun h => ?_⟩))
  obtain ⟨es, he, hkn, hb⟩ := hs h
  refine ⟨es, ?_, hkn, fun _ => ⟨rfl, rfl, rfl⟩, fun cs e h1 h5 h9 => ?_⟩
  · rcases he with rfl | rfl
    · exact .lst _
    · exact .tup _
  · subst e
    exact (badC_no h1 h5 h9 hb).elim
theorem says2 {M : Nat} {es : List DD} {sts : List Stp} {n : Nat} (h1 : ρ[1]? = some (.dat (.int (M : Int)))) (h7 : ρ[7]? = some (.dat (.lst es))) (hm1 : 1 ≤ M) (hm2 : M ≤ 12) (hs : StpAll es sts) (l1 : 1 ≤ sts.length) (l2 : sts.length ≤ 20)
    (hb : badAt (M : Int) 0 sts = some n) : Says W ρ A (lt2 A) [.str ("plan" : Str), .int (n : Int)] := by
  intro σ G H S Q q
  show lt2 A (refX A Q) σ H _
  refine evq_call S (fun _ => False) (fun cls f d => cls = A.InvalidPlan ∧ f = ("at" : Str) ∧ d = .int (n : Int)) ?_ (fun _ _ _ _ _ _ z => z.elim) (says_plan S q)
  refine eva_cons (evp_dat h1 (eva_cons (evp_dat h7 (eva_nil ⟨rfl, _, _, .int, es, sts, rfl, rfl, .lst _, hs, l1, l2, fun h => ?_, fun M' e _ => ?_⟩))))
  · have h : okMany (.int (M : Int)) = false := h
    rw [okMany_nat hm1 hm2] at h; cases h
  · have e : (M : Int) = M' := DD.int.inj e
    subst e
    refine ⟨fun at' ha => ?_, fun ha => ?_⟩
    · rw [hb] at ha
      cases ha
      exact ⟨rfl, rfl, rfl⟩
    · rw [hb] at ha; cases ha
theorem pair_snoc {R : V → Slot → Prop} {x : V} {s : Slot} : ∀ {xs : List V} {ss : List Slot}, Paired R xs ss → R x s → Paired R (xs ++ [x]) (ss ++ [s])
  | _, _, .nil, h => .cons h .nil
  | _, _, .cons h1 t, h => .cons h1 (pair_snoc t h)
theorem pair_rev : ∀ (R : V → Slot → Prop) (xs : List V) (ss : List Slot), Paired R xs ss → Paired R xs.reverse ss.reverse := fun R xs ss h => by
  induction h with
  | nil => exact .nil
  | cons h t ih =>
    rw [List.reverse_cons, List.reverse_cons]
    exact pair_snoc ih h
theorem says3 {i : Addr × Addr} {es : List DD} {sts : List Stp} (hM : W.M = dM i) (hJ : W.J = dJ i) (h0 : ρ[0]? = some (.dat (.any (.ref i.1)))) (h7 : ρ[7]? = some (.dat (.lst es))) (hs : StpAll es sts) (l1 : 1 ≤ sts.length) (l2 : sts.length ≤ 20) :
    Says W ρ A (lt3 A) [.str ("size" : Str), .str ("many" : Str)] := by
  intro σ G H S Q q
  show lt3 A (refX A Q) σ H _
  refine evq_callK0 (gS := fun ss => ss.reverse) (fun R xs ss h => pair_rev R xs ss h) S (fun _ => False) (fun cls f d => cls = A.InvalidSize ∧ f = ("word" : Str) ∧ d = .str ("many" : Str)) ?_ (fun _ _ _ _ _ _ z => z.elim) (says_size S q)
  refine eva_cons (evp_dat h7 (eva_cons (evp_callL0 hM hJ (eva_cons (evp_dat h0 (eva_cons (evp_new (evf_lstD ?_))))))))
  repeat (wtm_at "d")
  refine ⟨_, rfl, by decide, ?_⟩
  repeat (wtm_at "d")
  refine ⟨rfl, _, _, rfl, .lst _, by decide, by decide, fun k hk => ?_⟩
  have key : ∀ d, (∃ mk, kdD d = some mk) → okMany d = false → okArgs [Slot.dat (.lst es), .dat d].reverse = true ∧ c_elder_fault A ([Slot.dat (.lst es), .dat d].reverse.map toArg) (fun _ => False) (fun cls f d => cls = A.InvalidSize ∧ f = ("word" : Str) ∧ d = .str ("many" : Str)) := by
    rintro d ⟨mk, hmk⟩ hno
    refine ⟨rfl, .dat d, _, mk, es, sts, rfl, hmk, .lst _, hs, l1, l2, fun _ => ⟨rfl, rfl, rfl⟩, fun M e h => ?_⟩
    have e : d = .int M := e
    subst e
    rw [hno] at h; cases h
  refine eva_nil ?_
  match k, hk with
  | 0, _ => exact key _ ⟨_, rfl⟩ rfl
  | 1, _ => exact key _ ⟨_, rfl⟩ rfl
  | 2, _ => exact key _ ⟨_, rfl⟩ rfl
theorem says4 : Says W ρ A (lt4 A) [.str ("none" : Str)] := by
  intro σ G H S Q q
  show lt4 A (refX A Q) σ H _
  refine evq_callK0 (gS := fun ss => ss) (fun R xs ss h => h) S (fun _ => True) (fun _ _ _ => False) ?_ (fun v G2 H2 d g _ _ => ?_) (fun _ _ _ _ _ _ _ _ _ _ z => z.elim)
  · repeat (wtm_at "d")
    refine ⟨_, rfl, by decide, ?_⟩
    repeat (wtm_at "d")
    refine ⟨rfl, _, .tup, rfl, rfl, fun h => Bool.noConfusion h, fun _ => ⟨_, .tup _, fun x hx => ?_, fun hb => ?_, fun _ _ _ _ _ _ _ _ _ => trivial⟩⟩
    · simp only [List.mem_cons, List.not_mem_nil, or_false] at hx
      rcases hx with rfl | rfl | rfl | rfl | rfl <;> exact ⟨_, rfl⟩
    · have hb : badC ([3, 0, 3, 0, 3].map fun c : Nat => DD.int (c : Int)) := hb
      exact badC_no (by decide) (by decide) (by decide) hb
  · refine ⟨by show 1 ≤ sizeLine; decide, fun p hp => q _ _ _ (g.trans (W.new (S.cur.trans g) hp)) (Rp.tup upd_same (.cons (.str _) .nil))⟩
end
end Dl

set_option Elab.async false
set_option linter.all false
set_option maxRecDepth 100000
set_option maxHeartbeats 1000000
namespace Dl
open PySem PySem.Spec PyProof.Rows L2
local macro_rules | `(tactic| wtm_at "d") => `(tactic| first
  | with_reducible refine sd_seq ?_ | with_reducible refine sd_if ?_ | with_reducible refine sd_ret ?_
  | with_reducible refine evp_op ?_ | with_reducible refine evp_un ?_ | with_reducible refine evp_cb ?_ | with_reducible refine evp_tupD ?_
  | with_reducible refine evp_andV ?_ | with_reducible refine evp_orV ?_ | with_reducible refine evp_notV ?_ | with_reducible refine evp_if ?_
  | with_reducible refine evt_test ?_ | with_reducible refine evt_B ?_ | with_reducible refine evt_and ?_ | with_reducible refine evt_or ?_ | with_reducible refine evt_not ?_
  | with_reducible refine eva_cons ?_ | with_reducible refine eva_nil ?_
  | with_reducible refine evp_int ?_ | with_reducible refine evp_str ?_ | with_reducible refine evp_bl ?_ | with_reducible refine evp_non ?_ | with_reducible refine evp_any ?_
  | (with_reducible refine evp_isv ?_; refine evp_dat rfl ?_)
  | with_reducible refine evp_callP ?_ | with_reducible refine evp_chain ?_
  | with_reducible refine sd_next ?_
  | with_reducible refine opp_add ?_ | with_reducible refine opp_sub ?_ | with_reducible refine opp_lt ?_ | with_reducible refine opp_le ?_ | with_reducible refine opp_gt ?_ | with_reducible refine opp_ge ?_
  | with_reducible refine opp_isN ?_ | with_reducible refine opp_notN ?_ | with_reducible refine unp_neg ?_
  | with_reducible refine ex_bl ?_ | with_reducible refine ex_dat ?_ | with_reducible refine ex_int ?_)
local macro_rules | `(tactic| wtm_at "e") => `(tactic| first | wtm_at "d" | with_reducible refine sd_set ?_)
variable {P : Program} {w : World} {K : PySem.W.Frag} {mg : Str → Option Value} {base : Heap} {A : Ads}
open LamX
/-! _law_refusals -/
/-- a def whose code object is told -/
structure FunC (K : PySem.W.Frag) (x qual : Str) (st : Stmt) (f : Addr) (fd : FuncData) (c : Addr) : Prop where
  ex : ∃ (oc : Value) (od : Option Addr) (kV doc pm : Value) (an : Option Addr) (ct : Value) (osl : Array (Option Value)),
    fd = PySem.W.fnOf x qual (defArgs st) (defBody st) (defScope st) .none kV doc pm an (.ref c) ct ∧ K.lookup f = some ⟨oc, od, .func fd, osl⟩ ∧ PySem.W.codeIn K (.ref c) qual = true
  kp : PySem.W.keepIn K (.ref f) = true
theorem FunC.fn {x qual : Str} {st : Stmt} {f c : Addr} {fd : FuncData} (F : FunC K x qual st f fd c) : Fun K x qual st f fd := ⟨let ⟨oc, od, kV, doc, pm, an, ct, osl, h⟩ := F.ex; ⟨oc, od, kV, doc, pm, an, .ref c, ct, osl, h⟩, F.kp⟩
theorem FunC.ok {x qual : Str} {st : Stmt} {f c : Addr} {fd : FuncData} {N ps : List Str} {k : Nat} {sp : Sp} (F : FunC K x qual st f fd c) (S : FnScope N ps (defScope st)) (len : ∀ vs H Q E, sp vs H Q E → vs.length = ps.length)
    (hbody : ∀ (A : Around) (outer : List Env) (s : Shared) (H : Hp) (vs : List V) (Q : VK) (E : XK), Room k (A.deeper (envOfC qual (defScope st) s.heap.objs.size f (.ref c))) → sp vs H Q E →
      ∃ t, PSs (cxOf CX0 P w K mg base N qual (defScope st) f (.ref c) A outer s H E).nox (defBody st) t ∧ t { nx := fun _ H' => Q .non H', rt := Q } (start N vs) H) : FnOk P w K mg base CX0 (k + 1) f fd ps sp := by
  obtain ⟨oc, od, kV, doc, pm, an, ct, osl, rfl, lk, hcd⟩ := F.ex
  refine fn_of lk hcd S len fun A outer s H vs Q E hr hsp => ?_
  obtain ⟨t, h, q⟩ := hbody A outer s H vs Q E hr hsp
  exact ⟨t, h.nox, q⟩

/-! ### data under a heap of which tables alone change -/
mutual
theorem Rp.extN {G G' : Hp} (e : ExtN G G') : ∀ {d : DD} {v : V}, Rp G v d → Rp G' v d
  | .non, _, h => by cases h; exact .non
  | .bl b, _, h => by cases h; exact .bl b
  | .int b, _, h => by cases h; exact .int b
  | .str b, _, h => by cases h; exact .str b
  | .lst ds, _, h => by
    cases h with
    | lst h1 h2 => exact .lst (e _ _ h1 (fun _ z => by cases z)) (RpAll.extN e h2)
  | .tup ds, _, h => by
    cases h with
    | tup h1 h2 => exact .tup (e _ _ h1 (fun _ z => by cases z)) (RpAll.extN e h2)
  | .dT _, _, h => by
    cases h with
    | dT h1 => exact .dT (e _ _ h1 (fun _ z => by cases z))
  | .dK _, _, h => by
    cases h with
    | dK h1 => exact .dK (e _ _ h1 (fun _ z => by cases z))
  | .any v, _, h => by cases h; exact .any v
theorem RpAll.extN {G G' : Hp} (e : ExtN G G') : ∀ {ds : List DD} {vs : List V}, RpAll G vs ds → RpAll G' vs ds
  | [], _, h => by cases h; exact .nil
  | d :: ds, _, h => by
    cases h with
    | cons h1 h2 => exact .cons (Rp.extN e h1) (RpAll.extN e h2)
end
open Classical in
/-- all but M -/
noncomputable def hid (M : Addr → Prop) (H : Hp) : Hp := fun a => if M a then none else H a
section
variable {M M' : Addr → Prop} {G H H' : Hp} {a p l : Addr} {o : HO} {i : Addr × Addr} {T : List (Addr × Str)}
theorem hid_in (h : M a) : hid M H a = none := if_pos h
theorem hid_out (h : ¬ M a) : hid M H a = H a := if_neg h
theorem hid_some (h : hid M H a = some o) : ¬ M a ∧ H a = some o := by
  by_cases m : M a
  · rw [hid_in m] at h; cases h
  · rw [hid_out m] at h; exact ⟨m, h⟩
theorem hid_same : Same (hid M H) H := fun _ _ h => (hid_some h).2
theorem hid_sub (h : ∀ a, M' a → M a) : Same (hid M H) (hid M' H) := fun a o e => by
  obtain ⟨m, e⟩ := hid_some e
  rw [hid_out (fun z => m (h a z))]; exact e
theorem hid_ext (e : ExtN H H') : ExtN (hid M H) (hid M H') := fun a o h n => by
  obtain ⟨m, h⟩ := hid_some h
  rw [hid_out m]; exact e a o h n
theorem same_hid (g : Same G H) (n : ∀ a, M a → G a = none) : Same G (hid M H) := fun a o e => by
  have m : ¬ M a := fun m => by rw [n a m] at e; cases e
  rw [hid_out m]; exact g a o e
theorem extN_new (h : H p = none) : ExtN H (upd H p o) := fun a u e _ => by rw [upd_ne (ne_of_none e h)]; exact e
theorem dJ_ext (j : dJ i H) (e : ExtN H H') : dJ i H' := by
  obtain ⟨cs, bl, h0, h1, h2, h3⟩ := j
  exact ⟨cs, bl, h0, e _ _ h1 (fun _ z => by cases z), e _ _ h2 (fun _ z => by cases z), h3⟩
theorem tabs_new (t : Tabs T H) (h : H p = none) : Tabs T (upd H p o) := t.ext fun a u e => by rw [upd_ne (ne_of_none e h)]; exact e
theorem dJ_lst (j : dJ i H) (m : dM i a) : ∃ xs, H a = some (.lst xs) := by
  obtain ⟨cs, bl, h0, h1, h2, h3⟩ := j
  rcases m with rfl | rfl
  · exact ⟨_, h1⟩
  · exact ⟨_, h2⟩
theorem lamO_ne {f c' : Addr} {q : Str} {params : Arguments} {body : Expr} {scope : Scope} {clos : List (Str × Addr)} : (∀ ps, LamO f q params body scope clos c' ≠ .tbl ps) ∧ ∀ xs, LamO f q params body scope clos c' ≠ .lst xs :=
  ⟨(fun _ z => by unfold LamO at z; cases z), (fun _ z => by unfold LamO at z; cases z)⟩
theorem codeO_ne2 {c' : Addr} {q : Str} : ∀ xs, CodeO c' q ≠ .lst xs := fun _ z => by unfold CodeO at z; cases z
end
/-- a lambda and what is due of it, in a tuple at t -/
structure Pr where
  t : Addr
  f : Addr
  c : Addr
  u : Addr
  e : Expr
  due : List DD
def Pr.dd (p : Pr) : DD := .tup [.any (.ref p.f), .tup p.due]
def lamOf (X : Cx) (e : Expr) (f c' : Addr) : HO := LamO f (X.env.qual ++ "<lambda>") (lPar e) (lBody e) (lScope e) (cloFrom X.env.cells (lScope e).names []) c'
structure PairOk (X : Cx) (H : Hp) (p : Pr) : Prop where
  t : H p.t = some (.tup [.ref p.f, .ref p.u])
  u : ∃ vs, H p.u = some (.tup vs) ∧ RpAll (fun _ => none) vs p.due
  f : H p.f = some (lamOf X p.e p.f p.c)
  c : H p.c = some (CodeO p.c (X.env.qual ++ "<lambda>"))
section
variable {X : Cx} {H H' : Hp} {p : Pr} {σ : L2.St} {i : Addr × Addr} {T : List (Addr × Str)} {e : Expr} {td : TE} {due : List DD} {vs : List V} {Q : VK} {l : Addr}
theorem PairOk.ext (h : PairOk X H p) (e : ∀ a o, H a = some o → (∀ ps, o ≠ .tbl ps) → (∀ xs, o ≠ .lst xs) → H' a = some o) : PairOk X H' p where
  t := e _ _ h.t (fun _ z => by cases z) (fun _ z => by cases z)
  u := let ⟨vs, h1, h2⟩ := h.u; ⟨vs, e _ _ h1 (fun _ z => by cases z) (fun _ z => by cases z), h2⟩
  f := e _ _ h.f lamO_ne.1 lamO_ne.2
  c := e _ _ h.c codeO_ne codeO_ne2
theorem b_pair (hj : dJ i H) (hT : Tabs T H) (hv : RpAll (fun _ => none) vs due) (hd : ∀ H', ExtN H H' → ∀ Q : VK, (∀ u, H' u = none → Q (.ref u) (upd H' u (.tup vs))) → td σ H' Q)
    (k : ∀ (p : Pr) H', p.e = e → p.due = due → ExtN H H' → Tabs T H' → PairOk X H' p → Q (.ref p.t) H') :
    tTup (tCons (tLamT T (X.env.qual ++ "<lambda>") (lPar e) (lBody e) (lScope e) (cloFrom X.env.cells (lScope e).names [])) (tCons td tNil)) σ H Q := by
  refine ⟨hT, fun f c' H1 eN T1 hf hc => ?_⟩
  have e1 : ExtN H (upd H1 f (lamOf X e f c')) := eN.trans (extN_new hf)
  refine hd _ e1 _ fun u hu => ⟨by show 2 ≤ sizeLine; decide, fun t ht => ?_⟩
  have hcf : c' ≠ f := ne_of_none hc hf
  have hfu : f ≠ u := ne_of_none (H := upd H1 f (lamOf X e f c')) upd_same hu
  have hcu : c' ≠ u := ne_of_none (H := upd H1 f (lamOf X e f c')) (by rw [upd_ne hcf]; exact hc) hu
  have hft : f ≠ t := ne_of_none (H := upd (upd H1 f (lamOf X e f c')) u (.tup vs)) (by rw [upd_ne hfu, upd_same]) ht
  have hct : c' ≠ t := ne_of_none (H := upd (upd H1 f (lamOf X e f c')) u (.tup vs)) (by rw [upd_ne hcu, upd_ne hcf]; exact hc) ht
  have hut : u ≠ t := ne_of_none (H := upd (upd H1 f (lamOf X e f c')) u (.tup vs)) upd_same ht
  refine k ⟨t, f, c', u, e, due⟩ _ rfl rfl ((e1.trans (extN_new hu)).trans (extN_new ht)) (tabs_new (tabs_new (tabs_new T1 hf) hu) ht) ⟨upd_same, ⟨vs, ?_, hv⟩, ?_, ?_⟩
  · show upd _ t _ u = _
    rw [upd_ne hut, upd_same]
  · show upd _ t _ f = _
    rw [upd_ne hft, upd_ne hfu, upd_same]
  · show upd _ t _ c' = _
    rw [upd_ne hct, upd_ne hcu, upd_ne hcf]; exact hc
end
/-- the lambdas that are kept in a list at l -/
structure WB (X : Cx) (i : Addr × Addr) (T : List (Addr × Str)) (M : Nat) (ple odd wrong : DD) (σ : L2.St) (H : Hp) (l : Addr) (ps : List Pr) : Prop where
  len : σ.length = 8
  s0 : σ[0]? = some (some (.ref i.1))
  s1 : σ[1]? = some (some (.int (M : Int)))
  s2 : ∃ x, σ[2]? = some (some x) ∧ Rp (hid (fun a => dM i a ∨ a = l) H) x ple
  s3 : σ[3]? = some (some (.ref l))
  s6 : ∃ x, σ[6]? = some (some x) ∧ Rp (hid (fun a => dM i a ∨ a = l) H) x odd
  s7 : ∃ x, σ[7]? = some (some x) ∧ Rp (hid (fun a => dM i a ∨ a = l) H) x wrong
  lst : H l = some (.lst (ps.map fun p => .ref p.t))
  nl : ¬ dM i l
  j : dJ i H
  tabs : Tabs T H
  prs : ∀ p ∈ ps, PairOk X H p
section
variable {X : Cx} {H H' : Hp} {p : Pr} {ps : List Pr} {σ : L2.St} {i : Addr × Addr} {T : List (Addr × Str)} {e : Expr} {td : TE} {due : List DD} {vs : List V} {Q : VK} {l : Addr} {M : Nat} {ple odd wrong : DD} {D : Ends}
theorem WB.app (h : WB X i T M ple odd wrong σ H l ps) (e : ExtN H H') (t : Tabs T H') (k : PairOk X H' p) : WB X i T M ple odd wrong σ (upd H' l (.lst ((ps.map fun p => V.ref p.t) ++ [.ref p.t]))) l (ps ++ [p]) := by
  have hl : H' l = some (.lst (ps.map fun p => .ref p.t)) := e _ _ h.lst (fun _ z => by cases z)
  have up : ∀ a o, H' a = some o → (∀ ps, o ≠ .tbl ps) → (∀ xs, o ≠ .lst xs) → upd H' l (.lst ((ps.map fun p => V.ref p.t) ++ [.ref p.t])) a = some o := fun a o e1 _ n => by
    have : a ≠ l := fun z => by
      subst z; rw [hl] at e1; exact n _ (Option.some.inj e1).symm
    rw [upd_ne this]; exact e1
  have dat : ∀ {x : V} {d : DD}, Rp (hid (fun a => dM i a ∨ a = l) H) x d → Rp (hid (fun a => dM i a ∨ a = l) (upd H' l (.lst ((ps.map fun p => V.ref p.t) ++ [.ref p.t])))) x d := fun {x d} r => by
    refine r.extN fun a o e1 n => ?_
    obtain ⟨m, e1⟩ := hid_some e1
    rw [hid_out m, upd_ne (fun z => m (.inr z))]
    exact e a o e1 n
  refine ⟨h.len, h.s0, h.s1, let ⟨x, h1, h2⟩ := h.s2; ⟨x, h1, dat h2⟩, h.s3, let ⟨x, h1, h2⟩ := h.s6; ⟨x, h1, dat h2⟩, let ⟨x, h1, h2⟩ := h.s7; ⟨x, h1, dat h2⟩, ?_, h.nl, ?_, ?_, fun p' hp' => ?_⟩
  · rw [upd_same, List.map_append]; rfl
  · have j := dJ_ext h.j e
    exact d_jl i _ _ j fun a m => upd_ne fun z => by subst z; exact h.nl m
  · intro q hq
    obtain ⟨xs, a1, a2, a3⟩ := t q hq
    have ne : q.1 ≠ l := fun z => by rw [z, hl] at a1; cases a1
    refine ⟨xs, by rw [upd_ne ne]; exact a1, a2, fun pos cv hcv => ?_⟩
    obtain ⟨c0, e1, e2⟩ := a3 pos cv hcv
    exact ⟨c0, e1, up _ _ e2 codeO_ne codeO_ne2⟩
  · rcases List.mem_append.mp hp' with z | z
    · exact ((h.prs p' z).ext fun a o e1 n _ => e a o e1 n).ext up
    · have : p' = p := by simpa using z
      subst this
      exact k.ext up
/-- works.append((lambda: .., due)) -/
theorem b_app (h : WB X i T M ple odd wrong σ H l ps) (hps : ps.length ≤ 1000) (hv : RpAll (fun _ => none) vs due) (hd : ∀ H', ExtN H H' → ∀ Q : VK, (∀ u, H' u = none → Q (.ref u) (upd H' u (.tup vs))) → td σ H' Q)
    (k : ∀ (p : Pr) H', p.e = e → p.due = due → WB X i T M ple odd wrong σ H' l (ps ++ [p]) → D.nx σ H') :
    tDrop (tBM K "list" rAppend (tVar 3) (tCons (tTup (tCons (tLamT T (X.env.qual ++ "<lambda>") (lPar e) (lBody e) (lScope e) (cloFrom X.env.cells (lScope e).names [])) (tCons td tNil))) tNil)) D σ H := by
  refine ⟨_, h.s3, .inl ⟨rfl, _, SqL.of h.lst⟩, ?_⟩
  refine b_pair h.j h.tabs hv hd fun p H' ep ed eN t' pk => ?_
  refine ⟨l, _, _, rfl, rfl, eN _ _ h.lst (fun _ z => by cases z), by rw [List.length_map]; exact small1000 hps, ?_⟩
  exact k p _ ep ed (h.app eN t' pk)
end
end Dl

set_option Elab.async false
set_option linter.all false
set_option maxRecDepth 100000
set_option maxHeartbeats 1000000
namespace Dl
open PySem PySem.Spec PyProof.Rows L2
local macro_rules | `(tactic| wtm_at "d") => `(tactic| first
  | with_reducible refine sd_seq ?_ | with_reducible refine sd_if ?_ | with_reducible refine sd_ret ?_
  | with_reducible refine evp_op ?_ | with_reducible refine evp_un ?_ | with_reducible refine evp_cb ?_ | with_reducible refine evp_tupD ?_
  | with_reducible refine evp_andV ?_ | with_reducible refine evp_orV ?_ | with_reducible refine evp_notV ?_ | with_reducible refine evp_if ?_
  | with_reducible refine evt_test ?_ | with_reducible refine evt_B ?_ | with_reducible refine evt_and ?_ | with_reducible refine evt_or ?_ | with_reducible refine evt_not ?_
  | with_reducible refine eva_cons ?_ | with_reducible refine eva_nil ?_
  | with_reducible refine evp_int ?_ | with_reducible refine evp_str ?_ | with_reducible refine evp_bl ?_ | with_reducible refine evp_non ?_ | with_reducible refine evp_any ?_
  | (with_reducible refine evp_isv ?_; refine evp_dat rfl ?_)
  | with_reducible refine evp_callP ?_ | with_reducible refine evp_chain ?_
  | with_reducible refine sd_next ?_
  | with_reducible refine opp_add ?_ | with_reducible refine opp_sub ?_ | with_reducible refine opp_lt ?_ | with_reducible refine opp_le ?_ | with_reducible refine opp_gt ?_ | with_reducible refine opp_ge ?_
  | with_reducible refine opp_isN ?_ | with_reducible refine opp_notN ?_ | with_reducible refine unp_neg ?_
  | with_reducible refine ex_bl ?_ | with_reducible refine ex_dat ?_ | with_reducible refine ex_int ?_)
local macro_rules | `(tactic| wtm_at "e") => `(tactic| first | wtm_at "d" | with_reducible refine sd_set ?_)
variable {P : Program} {w : World} {K : PySem.W.Frag} {mg : Str → Option Value} {base : Heap} {A : Ads}
local macro_rules | `(tactic| wtm_at "f") => `(tactic| first | wtm_at "e" | (with_reducible refine evp_new (evf_lstD ?_)) | (refine ⟨_, rfl, by decide, ?_⟩))
open LamX
/-! _law_refusals, walked -/
theorem sd_step {W : Wd} {t u : TS} {ρ : List Slot} {I : List Slot → Prop} {σ : L2.St} {G H : Hp} {D : Ends} (S : St W G H σ ρ) (h : SD W t ρ { nx := I, rt := fun _ => False }) (k : ∀ σ2 G2 H2 ρ2, St W G2 H2 σ2 ρ2 → Same G G2 → I ρ2 → u D σ2 H2) : tSeq t u D σ H :=
  h σ G H S { D with nx := u D } ⟨fun σ2 G2 H2 ρ2 S2 g i => k σ2 G2 H2 ρ2 S2 g i, fun _ _ _ _ _ _ z => z.elim, fun _ _ _ _ _ _ z => z.elim, fun _ _ _ _ _ _ z => z.elim⟩
def oS : Option DD → Slot
  | none => .no
  | some d => .dat d
theorem st_dat {W : Wd} {σ : L2.St} {os : List (Option DD)} (hl : σ.length = os.length) (h : ∀ (i : Nat) (d : DD), os[i]? = some (some d) → ∃ x, σ[i]? = some (some x) ∧ Rp W.G0 x d) : St W W.G0 W.H0 σ (os.map oS) := by
  have key : ∀ (i : Nat) (s : Slot), (os.map oS)[i]? = some s → ∃ o, os[i]? = some o ∧ s = oS o := fun i s e => by
    rw [List.getElem?_map] at e
    cases z : os[i]? with
    | none => rw [z] at e; cases e
    | some o => rw [z] at e; cases e; exact ⟨o, rfl, rfl⟩
  refine ⟨Fr.refl W.g0 W.j0, by rw [List.length_map]; exact hl, fun i s e n => ?_, fun i j m ds es l _ hi _ _ _ => ?_⟩
  · obtain ⟨o, e1, rfl⟩ := key i s e
    cases o with
    | none => exact absurd rfl n
    | some d =>
      obtain ⟨x, h1, h2⟩ := h i d e1
      exact ⟨x, h1, h2⟩
  · obtain ⟨o, _, e2⟩ := key i _ hi
    cases o <;> cases e2
section
variable {X : Cx} {H H' : Hp} {p : Pr} {ps : List Pr} {σ : L2.St} {i : Addr × Addr} {T : List (Addr × Str)} {e : Expr} {td : TE} {due : List DD} {vs : List V} {Q : VK} {l : Addr} {M : Nat} {ple odd wrong : DD} {D : Ends}
/-- works = [(lambda: .., due)] -/
theorem b_first (len : σ.length = 8) (s0 : σ[0]? = some (some (.ref i.1))) (s1 : σ[1]? = some (some (.int (M : Int)))) (s2 : ∃ x, σ[2]? = some (some x) ∧ Rp (hid (dM i) H) x ple) (s6 : ∃ x, σ[6]? = some (some x) ∧ Rp (hid (dM i) H) x odd)
    (s7 : ∃ x, σ[7]? = some (some x) ∧ Rp (hid (dM i) H) x wrong) (hj : dJ i H) (hT : Tabs T H) (hv : RpAll (fun _ => none) vs due) (hd : ∀ H', ExtN H H' → ∀ Q : VK, (∀ u, H' u = none → Q (.ref u) (upd H' u (.tup vs))) → td σ H' Q)
    (k : ∀ (p : Pr) l H', p.e = e → p.due = due → WB X i T M ple odd wrong (σ.set 3 (some (.ref l))) H' l [p] → D.nx (σ.set 3 (some (.ref l))) H') :
    tAsg (tLst (tCons (tTup (tCons (tLamT T (X.env.qual ++ "<lambda>") (lPar e) (lBody e) (lScope e) (cloFrom X.env.cells (lScope e).names [])) (tCons td tNil))) tNil)) (gName 3) D σ H := by
  refine b_pair (X := X) (e := e) (Q := fun x H1 => [x].length ≤ sizeLine ∧ ∀ p, H1 p = none → D.nx (σ.set 3 (some (.ref p))) (upd H1 p (.lst [x]))) hj hT hv hd fun p H' ep ed eN t' pk => ⟨by show 1 ≤ sizeLine; decide, fun l hl => ?_⟩
  have dat : ∀ {x : V} {d : DD}, Rp (hid (dM i) H) x d → Rp (hid (fun a => dM i a ∨ a = l) (upd H' l (.lst [V.ref p.t]))) x d := fun {x d} r => by
    refine r.extN fun a o e1 n => ?_
    obtain ⟨m, e1⟩ := hid_some e1
    have e2 := eN a o e1 n
    have ne : a ≠ l := ne_of_none e2 hl
    rw [hid_out (fun z => z.elim m ne), upd_ne ne]
    exact e2
  have j' := dJ_ext hj eN
  have st : ∀ {k : Nat} {x : V}, k ≠ 3 → σ[k]? = some (some x) → (σ.set 3 (some (V.ref l)))[k]? = some (some x) := fun {k x} n h => by rw [List.getElem?_set_ne (fun z => n z.symm)]; exact h
  refine k p l _ ep ed ⟨by rw [List.length_set]; exact len, st (by decide) s0, st (by decide) s1, let ⟨x, h1, h2⟩ := s2; ⟨x, st (by decide) h1, dat h2⟩, by rw [List.getElem?_set_self (by omega)], let ⟨x, h1, h2⟩ := s6; ⟨x, st (by decide) h1, dat h2⟩, let ⟨x, h1, h2⟩ := s7; ⟨x, st (by decide) h1, dat h2⟩, upd_same, fun m => ?_, ?_, tabs_new t' hl, fun p' hp' => ?_⟩
  · obtain ⟨xs, z⟩ := dJ_lst j' m
    rw [hl] at z; cases z
  · exact dJ_ext j' (extN_new hl)
  · have : p' = p := by simpa using hp'
    subst this
    exact pk.ext fun a o e1 _ _ => by rw [upd_ne (ne_of_none e1 hl)]; exact e1
theorem WB.s2' (h : WB X i T M ple odd wrong σ H l ps) {ds : List DD} (e : ple = .lst ds) : ∃ a xs, σ[2]? = some (some (.ref a)) ∧ xs.length = ds.length ∧ ∀ H', ExtN H H' → H' a = some (.lst xs) := by
  obtain ⟨x, h1, h2⟩ := h.s2
  subst e
  cases h2 with
  | lst a1 a2 => exact ⟨_, _, h1, a2.length, fun H' e => e _ _ (hid_some a1).2 (fun _ z => by cases z)⟩
/-- what stands when all are kept -/
noncomputable def wdL (i : Addr × Addr) (H : Hp) (j : dJ i H) : Wd := ⟨dM i, dJ i, hid (dM i) H, H, d_jl i, d_jm i, fun _ m => hid_in m, hid_same, j⟩
theorem WB.st (h : WB X i T M ple odd wrong σ H l ps) : St (wdL i H h.j) (hid (dM i) H) H σ [.dat (.any (.ref i.1)), .dat (.int (M : Int)), .dat ple, .dat (.lst (ps.map Pr.dd)), .no, .no, .dat odd, .dat wrong] := by
  have sub : Same (hid (fun a => dM i a ∨ a = l) H) (hid (dM i) H) := hid_sub fun a m => .inl m
  have nd : ∀ {a : Addr} {o : HO}, H a = some o → (∀ xs, o ≠ .lst xs) → hid (dM i) H a = some o := fun {a o} e n => by
    rw [hid_out fun m => ?_]
    · exact e
    · obtain ⟨xs, z⟩ := dJ_lst h.j m
      rw [e] at z
      exact n _ (Option.some.inj z)
  have prs : ∀ {ps : List Pr}, (∀ p ∈ ps, PairOk X H p) → RpAll (hid (dM i) H) (ps.map fun p => V.ref p.t) (ps.map Pr.dd) := fun {ps} => by
    induction ps with
    | nil => exact fun _ => .nil
    | cons p ps ih =>
      intro hp
      have k := hp p List.mem_cons_self
      obtain ⟨vs, u1, u2⟩ := k.u
      exact .cons (.tup (nd k.t (fun _ z => by cases z)) (.cons (.any _) (.cons (.tup (nd u1 (fun _ z => by cases z)) (u2.mono fun _ _ z => by cases z)) .nil))) (ih fun p hq => hp p (List.mem_cons_of_mem _ hq))
  refine st_dat (W := wdL i H h.j) (os := [some (.any (.ref i.1)), some (.int (M : Int)), some ple, some (.lst (ps.map Pr.dd)), none, none, some odd, some wrong]) h.len fun k d e => ?_
  match k, e with
  | 0, e => cases e; exact ⟨_, h.s0, .any _⟩
  | 1, e => cases e; exact ⟨_, h.s1, .int _⟩
  | 2, e => cases e; exact let ⟨x, h1, h2⟩ := h.s2; ⟨x, h1, h2.mono sub⟩
  | 3, e => cases e; exact ⟨_, h.s3, .lst (by rw [show (wdL i H h.j).G0 = hid (dM i) H from rfl, hid_out h.nl]; exact h.lst) (prs h.prs)⟩
  | 4, e => cases e
  | 5, e => cases e
  | 6, e => cases e; exact let ⟨x, h1, h2⟩ := h.s6; ⟨x, h1, h2.mono sub⟩
  | 7, e => cases e; exact let ⟨x, h1, h2⟩ := h.s7; ⟨x, h1, h2.mono sub⟩
  | n + 8, e => exact absurd e (by simp)
theorem evp_lamCall {W : Wd} {ρ : List Slot} {P : Slot → Prop} {tl : XK → TE} {n : Nat} (h4 : ρ[n]? = some (.dat (.any (.ref p.f)))) (LK : LamK X 6 p.f p.c (lPar p.e) (lBody p.e) (lScope p.e) tl) (ok : PairOk X W.H0 p)
    (nm : ∀ a, W.M a → ∃ xs, W.H0 a = some (.lst xs)) (hs : Says W ρ A tl p.due) (k : P (.dat (.tup p.due))) : EvP W (tLamCall X 6 (TTref A) (tVar n)) ρ P := fun σ G H S Q q => by
  obtain ⟨x, h1, v⟩ := S.sl n _ h4 (nn _)
  cases v
  have nf : ¬ W.M p.f := fun m => by
    obtain ⟨xs, z⟩ := nm _ m
    rw [ok.f] at z
    exact lamO_ne.2 _ (Option.some.inj z)
  have nc : ¬ W.M p.c := fun m => by
    obtain ⟨xs, z⟩ := nm _ m
    rw [ok.c] at z
    exact codeO_ne2 _ (Option.some.inj z)
  exact ⟨_, h1, p.f, p.c, _, _, _, tl, rfl, LK, S.cur.keep _ _ nf ok.f, S.cur.keep _ _ nc ok.c, hs σ G H S Q fun x G2 H2 g r => q x G2 H2 _ g (vd r) k⟩
end
/-! the counts that are refused; the plan that is refused -/
def odds : List DD := [.non, .int 3, .tup [], .lst [.int 0, .int 0, .int 0, .int 0, .int 0, .int 0], .lst [.int (-1)], .lst [.int 10], .lst [.int 5, .int 5], .lst [.bl true], .lst [.str ("1" : Str)], .lst [.int 1, .non], .lst [.int 2, .int 2, .int 2, .int 2, .int 2]]
theorem kn_all {es : List DD} (h : es.all (fun x => (kdD x).isSome) = true) : ∀ x ∈ es, ∃ kd, kdD x = some kd := fun x hx => Option.isSome_iff_exists.mp (List.all_eq_true.mp h x hx)
theorem odd_L {es : List DD} (h : es.all (fun x => (kdD x).isSome) = true) (b : badC es) : OddOk (.lst es) := ⟨.lst, rfl, fun _ => ⟨es, .inl rfl, kn_all h, b⟩⟩
theorem odds_ok : ∀ d ∈ odds, OddOk d := by
  intro d hd
  simp only [odds, List.mem_cons, List.not_mem_nil, or_false] at hd
  rcases hd with rfl | rfl | rfl | rfl | rfl | rfl | rfl | rfl | rfl | rfl | rfl
  · exact ⟨.non, rfl, fun h => Bool.noConfusion h⟩
  · exact ⟨.int, rfl, fun h => Bool.noConfusion h⟩
  · exact ⟨.tup, rfl, fun _ => ⟨[], .inr rfl, (fun _ h => by cases h), .inl rfl⟩⟩
  · exact odd_L rfl (.inr (.inl (by decide)))
  · exact odd_L rfl (.inr (.inr (.inl rfl)))
  · exact odd_L rfl (.inr (.inr (.inr ⟨[10], rfl, by decide⟩)))
  · exact odd_L rfl (.inr (.inr (.inr ⟨[5, 5], rfl, by decide⟩)))
  · exact odd_L rfl (.inr (.inr (.inl rfl)))
  · exact odd_L rfl (.inr (.inr (.inl rfl)))
  · exact odd_L rfl (.inr (.inr (.inl rfl)))
  · exact odd_L rfl (.inr (.inr (.inr ⟨[2, 2, 2, 2, 2], rfl, by decide⟩)))
theorem badAt_snoc {M : Int} {st : Stp} : ∀ {sts : List Stp} {n : Nat}, badAt M n sts = none → okStp M ((n + sts.length : Nat) : Int) st = false → badAt M n (sts ++ [st]) = some (n + sts.length)
  | [], n, _, h => by
    show (if okStp M (n : Int) st = true then _ else _) = _
    rw [if_neg (by rw [show okStp M (n : Int) st = false from h]; exact Bool.false_ne_true)]; rfl
  | s :: r, n, hb, h => by
    unfold badAt at hb
    show (if okStp M (n : Int) s = true then badAt M (n + 1) (r ++ [st]) else some n) = _
    by_cases e : okStp M (n : Int) s = true
    · rw [if_pos e] at hb ⊢
      have := badAt_snoc (n := n + 1) hb (by rw [show n + 1 + r.length = n + (s :: r).length by simp; omega]; exact h)
      rw [this, show n + 1 + r.length = n + (s :: r).length by simp; omega]
    · rw [if_neg e] at hb; cases hb
theorem stpAll_snoc {es : List DD} {sts : List Stp} {st : Stp} (h : StpAll es sts) (k : st.Kn) : StpAll (es ++ [.tup st.ds]) (sts ++ [st]) := by
  refine ⟨by rw [List.length_append, List.length_append, h.1]; rfl, fun i s e => ?_⟩
  by_cases hi : i < sts.length
  · rw [List.getElem?_append_left hi] at e
    have := h.2 i s e
    have ei : itemsOf (es ++ [.tup st.ds]) i = itemsOf es i := itemsOf_eq (by rw [List.getElem?_append_left (by rw [h.1]; exact hi)]; exact itemsOf_lt (by rw [h.1]; exact hi))
    rw [ei]; exact this
  · rw [List.getElem?_append_right (by omega)] at e
    have hz : i - sts.length = 0 := by
      by_cases z : i - sts.length = 0
      · exact z
      · rw [List.getElem?_eq_none (by simp; omega)] at e; cases e
    rw [hz] at e
    cases e
    have ei : itemsOf (es ++ [.tup st.ds]) i = .tup st.ds := itemsOf_eq (by rw [List.getElem?_append_right (by rw [h.1]; omega), h.1, hz]; rfl)
    rw [ei]
    exact ⟨.inr rfl, k⟩
/-- a plan whose last step is none -/
def WrongOk (M : Nat) (pl : List Pl) (d : DD) : Prop := ∃ st : Stp, d = .lst (pl.map Pl.dd ++ [.tup st.ds]) ∧ st.Kn ∧ okStp (M : Int) (pl.length : Int) st = false
end Dl

set_option Elab.async false
set_option linter.all false
set_option maxRecDepth 100000
set_option maxHeartbeats 1000000
namespace Dl
open PySem PySem.Spec PyProof.Rows L2
local macro_rules | `(tactic| wtm_at "d") => `(tactic| first
  | with_reducible refine sd_seq ?_ | with_reducible refine sd_if ?_ | with_reducible refine sd_ret ?_
  | with_reducible refine evp_op ?_ | with_reducible refine evp_un ?_ | with_reducible refine evp_cb ?_ | with_reducible refine evp_tupD ?_
  | with_reducible refine evp_andV ?_ | with_reducible refine evp_orV ?_ | with_reducible refine evp_notV ?_ | with_reducible refine evp_if ?_
  | with_reducible refine evt_test ?_ | with_reducible refine evt_B ?_ | with_reducible refine evt_and ?_ | with_reducible refine evt_or ?_ | with_reducible refine evt_not ?_
  | with_reducible refine eva_cons ?_ | with_reducible refine eva_nil ?_
  | with_reducible refine evp_int ?_ | with_reducible refine evp_str ?_ | with_reducible refine evp_bl ?_ | with_reducible refine evp_non ?_ | with_reducible refine evp_any ?_
  | (with_reducible refine evp_isv ?_; refine evp_dat rfl ?_)
  | with_reducible refine evp_callP ?_ | with_reducible refine evp_chain ?_
  | with_reducible refine sd_next ?_
  | with_reducible refine opp_add ?_ | with_reducible refine opp_sub ?_ | with_reducible refine opp_lt ?_ | with_reducible refine opp_le ?_ | with_reducible refine opp_gt ?_ | with_reducible refine opp_ge ?_
  | with_reducible refine opp_isN ?_ | with_reducible refine opp_notN ?_ | with_reducible refine unp_neg ?_
  | with_reducible refine ex_bl ?_ | with_reducible refine ex_dat ?_ | with_reducible refine ex_int ?_)
local macro_rules | `(tactic| wtm_at "e") => `(tactic| first | wtm_at "d" | with_reducible refine sd_set ?_)
variable {P : Program} {w : World} {K : PySem.W.Frag} {mg : Str → Option Value} {base : Heap} {A : Ads}
local macro_rules | `(tactic| wtm_at "f") => `(tactic| first | wtm_at "e" | (with_reducible refine evp_new (evf_lstD ?_)) | (refine ⟨_, rfl, Nat.le_of_ble_eq_true rfl, ?_⟩))
open LamX
def wrongs (M len : Nat) : List DD := [.tup [.str ("version" : Str), .int (M : Int)], .tup [.str ("merge" : Str), .int 0, .int 0, .int (len : Int)], .tup [.str ("merge" : Str), .int 0, .int 0, .non]]
theorem wrongs_ok {M len : Nat} : ∀ {k : Nat}, k < 3 → ∃ st : Stp, itemsOf (wrongs M len) k = .tup st.ds ∧ st.Kn ∧ okStp (M : Int) (len : Int) st = false
  | 0, _ => ⟨.ver (.int (M : Int)), rfl, (fun z => nomatch z), by show (decide (0 ≤ (M : Int)) && decide ((M : Int) < (M : Int))) = false; rw [decide_eq_false (Int.lt_irrefl _), Bool.and_false]⟩
  | 1, _ => ⟨.mrg (.int 0) (.int 0) (.int (len : Int)), rfl, ⟨(fun z => nomatch z), (fun z => nomatch z), (fun z => nomatch z)⟩, by
    show (_ && (_ && (decide (0 ≤ (len : Int)) && decide ((len : Int) < (len : Int))))) = false
    rw [decide_eq_false (Int.lt_irrefl _), Bool.and_false, Bool.and_false, Bool.and_false]⟩
  | 2, _ => ⟨.mrg (.int 0) (.int 0) .non, rfl, ⟨(fun z => nomatch z), (fun z => nomatch z), (fun z => nomatch z)⟩, by
    show (_ && (_ && false)) = false
    rw [Bool.and_false, Bool.and_false]⟩
theorem seq_of {t u : TS} {D : Ends} {σ : L2.St} {H : Hp} (h : t { D with nx := u D } σ H) : tSeq t u D σ H := h
def spRef (Pt : Addr) : Sp := fun vs H Q _ => ∃ (i : Addr × Addr) (G : Hp) (M : Nat) (pl : List Pl) (v : V), vs = [.ref i.1, .int (M : Int), v] ∧ Same G H ∧ dJ i H ∧ (∀ a, dM i a → G a = none) ∧ Rp G v (.lst (pl.map Pl.dd)) ∧ PlanOk M pl ∧ 1 ≤ M ∧ M ≤ 6 ∧ pl.length ≤ 12 ∧
  H Pt = some (.tbl #[]) ∧ ∀ H2, Q (.bl true) H2
theorem ok__law_refusals (T : TxL P K mg A) {c Pt : Addr} {fd : FuncData} (F : FunC K "_law_refusals" "_law_refusals" s__law_refusals A._law_refusals fd c) (TB : LamX.TabB base mg c Pt) :
    FD P w K mg base CX0 9 A._law_refusals ["_law_deal", "_law_many", "_law_plan_here"] (spRef Pt) := by
  obtain ⟨k__law_of, fd__law_of, G__law_of, B__law_of⟩ := ok__law_of (P := P) (w := w) (base := base) T.toTxt
  obtain ⟨fdr, Fr⟩ := T.F__law_refused
  have k_ref := Fr.kp
  have B_ref : L2.Binds K fdr ["_law_work"] [] := Fr.binds fun _ _ _ _ _ _ us hl => match us, hl with | [_], _ => rfl
  obtain ⟨oc, od, kV, doc, pm, an, cdv, ct, osl, rfl, lk, hcd⟩ := Fr.ex
  refine ⟨F.kp, fd, ?_, F.fn.binds fun _ _ _ _ _ _ us hl => match us, hl with | [_, _, _], _ => rfl⟩
  refine F.ok sc__law_refusals (fun vs H Q E h => by obtain ⟨i, G, M, pl, v, rfl, _⟩ := h; rfl) fun B outer s H vs Q E hr h => ⟨_,
    (pss_cons (ps_set (i := 6) sc__law_refusals.nd rfl (Or.inr rfl) (pe_call G__law_of (hr.mono (by decide)) (by rfl) T.g__law_of k__law_of B__law_of .nil pass0 (pa_cons (pv 0) (pa_cons (pe_lst (pa_cons pe_non (pa_cons pe_int (pa_cons (pe_tup pa_nil) (pa_cons (pe_lst (pa_cons pe_int (pa_cons pe_int (pa_cons pe_int (pa_cons pe_int (pa_cons pe_int (pa_cons pe_int pa_nil))))))) (pa_cons (pe_lst (pa_cons (pe_un un_negI pe_int) pa_nil)) (pa_cons (pe_lst (pa_cons pe_int pa_nil)) (pa_cons (pe_lst (pa_cons pe_int (pa_cons pe_int pa_nil))) (pa_cons (pe_lst (pa_cons pe_bl pa_nil)) (pa_cons (pe_lst (pa_cons pe_str pa_nil)) (pa_cons (pe_lst (pa_cons pe_int (pa_cons pe_non pa_nil))) (pa_cons (pe_lst (pa_cons pe_int (pa_cons pe_int (pa_cons pe_int (pa_cons pe_int (pa_cons pe_int pa_nil)))))) pa_nil)))))))))))) pa_nil))))
      (pss_cons (ps_set (i := 7) sc__law_refusals.nd rfl (Or.inr rfl) (pe_op op_addU (pv 2) (pe_lst (pa_cons (pe_call G__law_of (hr.mono (by decide)) (by rfl) T.g__law_of k__law_of B__law_of .nil pass0 (pa_cons (pv 0) (pa_cons (pe_lst (pa_cons (pe_tup (pa_cons pe_str (pa_cons (pv 1) pa_nil))) (pa_cons (pe_tup (pa_cons pe_str (pa_cons pe_int (pa_cons pe_int (pa_cons (pe_callB (r := cLen K) call_cLen (by rfl) T.n_len (by decide +kernel) (pa_cons (pv 2) pa_nil)) pa_nil))))) (pa_cons (pe_tup (pa_cons pe_str (pa_cons pe_int (pa_cons pe_int (pa_cons pe_non pa_nil))))) pa_nil)))) pa_nil))) pa_nil))))
      (pss_cons (ps_set (i := 3) sc__law_refusals.nd rfl (Or.inl rfl) (pe_lst (pa_cons (pe_tup (pa_cons (pe_lamT (params := lPar (lamE 0)) (body := lBody (lamE 0)) (scope := lScope (lamE 0)) TB rfl (List.mem_singleton.mpr rfl) (fun p hp _ => by rw [List.mem_singleton.mp hp]) (lamS_by (show lamSB (defScope s__law_refusals) (lScope (lamE 0)) = true by decide +kernel)) rfl) (pa_cons (pe_tup (pa_cons pe_str (pa_cons pe_str pa_nil))) pa_nil))) pa_nil)))
      (pss_cons (ps_expr (pe_bm PySem.F.plainAttrs_list PySem.F.slot_list_append PySem.F.type_list_append mt_append (pv 3) (pa_cons (pe_tup (pa_cons (pe_lamT (params := lPar (lamE 1)) (body := lBody (lamE 1)) (scope := lScope (lamE 1)) TB rfl (List.mem_singleton.mpr rfl) (fun p hp _ => by rw [List.mem_singleton.mp hp]) (lamS_by (show lamSB (defScope s__law_refusals) (lScope (lamE 1)) = true by decide +kernel)) rfl) (pa_cons (pe_tup (pa_cons pe_str (pa_cons (pe_callB (r := cLen K) call_cLen (by rfl) T.n_len (by decide +kernel) (pa_cons (pv 2) pa_nil)) pa_nil))) pa_nil))) pa_nil)))
      (pss_cons (ps_expr (pe_bm PySem.F.plainAttrs_list PySem.F.slot_list_append PySem.F.type_list_append mt_append (pv 3) (pa_cons (pe_tup (pa_cons (pe_lamT (params := lPar (lamE 2)) (body := lBody (lamE 2)) (scope := lScope (lamE 2)) TB rfl (List.mem_singleton.mpr rfl) (fun p hp _ => by rw [List.mem_singleton.mp hp]) (lamS_by (show lamSB (defScope s__law_refusals) (lScope (lamE 2)) = true by decide +kernel)) rfl) (pa_cons (pe_tup (pa_cons pe_str (pa_cons pe_str pa_nil))) pa_nil))) pa_nil)))
      (pss_cons (ps_expr (pe_bm PySem.F.plainAttrs_list PySem.F.slot_list_append PySem.F.type_list_append mt_append (pv 3) (pa_cons (pe_tup (pa_cons (pe_lamT (params := lPar (lamE 3)) (body := lBody (lamE 3)) (scope := lScope (lamE 3)) TB rfl (List.mem_singleton.mpr rfl) (fun p hp _ => by rw [List.mem_singleton.mp hp]) (lamS_by (show lamSB (defScope s__law_refusals) (lScope (lamE 3)) = true by decide +kernel)) rfl) (pa_cons (pe_tup (pa_cons pe_str pa_nil)) pa_nil))) pa_nil)))
      (pss_cons (ps_for PassesOwn.never rfl (pi_seqK (K := K) rfl (pe_lst (pa_cons (pe_call G__law_of (hr.mono (by decide)) (by rfl) T.g__law_of k__law_of B__law_of .nil pass0 (pa_cons (pv 0) (pa_cons (pv 3) pa_nil))) (pa_cons (pe_call G__law_of (hr.mono (by decide)) (by rfl) T.g__law_of k__law_of B__law_of .nil pass0 (pa_cons (pv 0) (pa_cons (pv 3) pa_nil))) pa_nil)))) (pg_tup rfl (pgs_cons (pg_name (i := 4) sc__law_refusals.nd rfl (Or.inl rfl)) (pgs_cons (pg_name (i := 5) sc__law_refusals.nd rfl (Or.inl rfl)) pgs_nil)))
      (pss_one (ps_if (pt_cmpR (r := rNeD K) (op_neD hr.units) (pe_lamCallT (k := 6) (by rfl) T.g__law_refused k_ref lk hcd B_ref sc__law_refused rfl (.inl rfl) (refused_gives T) (hr.mono (by decide)) (pv 4)) (pv 5) (nomark _))
      (pss_one (ps_ret pe_bl))
      pss_nil)))
      (pss_one (ps_ret pe_bl)))))))))
    , ?_⟩
  obtain ⟨i, G, M, pl, v, rfl, hG, hj, hM0, hv, hpl, m1, m6, l12, hP, hQ⟩ := h
  have S0 : St ⟨dM i, dJ i, G, H, d_jl i, d_jm i, hM0, hG, hj⟩ G H (start N__law_refusals [.ref i.1, .int (M : Int), v]) [.dat (.any (.ref i.1)), .dat (.int (M : Int)), .dat (.lst (pl.map Pl.dd)), .no, .no, .no, .no, .no] :=
    st_start (W := ⟨dM i, dJ i, G, H, d_jl i, d_jm i, hM0, hG, hj⟩) (N := N__law_refusals) (ss := [.dat (.any (.ref i.1)), .dat (.int (M : Int)), .dat (.lst (pl.map Pl.dd))]) (by show 3 ≤ 8; decide) (.cons (Rp.any _) (.cons (Rp.int _) (.cons hv .nil)))
  -- odd
  refine sd_step (I := fun ρ => ∃ d, OddOk d ∧ ρ = [.dat (.any (.ref i.1)), .dat (.int (M : Int)), .dat (.lst (pl.map Pl.dd)), .no, .no, .no, .dat d, .no]) S0 ?_ fun σ1 G1 H1 ρ1 S1 g1 ⟨odd, hodd, e1⟩ => ?_
  · refine sd_set (evp_callL0 rfl rfl ?_)
    repeat (wtm_at "f")
    exact ⟨rfl, _, odds, rfl, .lst _, by decide, by decide, fun k hk => ⟨itemsOf odds k, rfl, itemsOf odds k, odds_ok _ (List.mem_of_getElem? (itemsOf_lt hk)), rfl⟩⟩
  subst e1
  refine sd_step (I := fun ρ => ∃ d, WrongOk M pl d ∧ ρ = [.dat (.any (.ref i.1)), .dat (.int (M : Int)), .dat (.lst (pl.map Pl.dd)), .no, .no, .no, .dat odd, .dat d]) S1 ?_ fun σ2 G2 H2 ρ2 S2 g2 ⟨wrong, hwrong, e2⟩ => ?_
  · refine sd_set ?_
    repeat (wtm_at "f")
    refine evp_callL0 rfl rfl ?_
    repeat (wtm_at "f")
    refine cap_len (.lst _) ?_
    repeat (wtm_at "f")
    refine ⟨rfl, _, _, rfl, .lst _, by show 0 < 3; decide, by show 3 ≤ 1000; decide, fun k hk => ?_⟩
    repeat (wtm_at "f")
    obtain ⟨st, es, kn, ok⟩ := wrongs_ok (M := M) (len := (pl.map Pl.dd).length) (k := k) hk
    refine opp_new (opf_cat (.lst _) (.lst _) (by rw [List.length_map]; show pl.length + 1 ≤ _; omega) ?_)
    refine ⟨_, rfl, _, ⟨st, ?_, kn, by rw [List.length_map] at ok; exact ok⟩, rfl⟩
    show DD.lst (pl.map Pl.dd ++ [itemsOf (wrongs M (pl.map Pl.dd).length) k]) = _
    rw [es]
  subst e2
  obtain ⟨st, rfl, kn, hst⟩ := hwrong
  have nPt : ¬ dM i Pt := fun m => by
    obtain ⟨xs, z⟩ := dJ_lst hj m
    rw [hP] at z; cases z
  have hP2 : H2 Pt = some (.tbl #[]) := S2.cur.keep Pt _ nPt hP
  have val : ∀ (k : Nat) (d : DD), [Slot.dat (.any (.ref i.1)), .dat (.int (M : Int)), .dat (.lst (pl.map Pl.dd)), .no, .no, .no, .dat odd, .dat (.lst (pl.map Pl.dd ++ [.tup st.ds]))][k]? = some (.dat d) → ∃ x, σ2[k]? = some (some x) ∧ Rp (hid (dM i) H2) x d := fun k d e =>
    let ⟨x, h1, h2⟩ := S2.sl k _ e (nn _)
    ⟨x, h1, h2.mono (same_hid S2.cur.gh fun a m => Wd.gm S2.cur m)⟩
  refine seq_of (b_first (X := rX P w K mg base A._law_refusals c B outer s H E) (i := i) (M := M) (ple := .lst (pl.map Pl.dd)) (odd := odd) (wrong := .lst (pl.map Pl.dd ++ [.tup st.ds])) (vs := [.str ("size" : Str), .str ("counts" : Str)]) (due := [.str ("size" : Str), .str ("counts" : Str)])
    S2.len (let ⟨x, h1, h2⟩ := val 0 _ rfl; by cases h2; exact h1) (let ⟨x, h1, h2⟩ := val 1 _ rfl; by cases h2; exact h1) (val 2 _ rfl) (val 6 _ rfl) (val 7 _ rfl) S2.cur.j (fun p hp => by rw [List.mem_singleton.mp hp]; exact TabS.nil hP2)
    (.cons (.str _) (.cons (.str _) .nil)) (fun H' _ Q q => ⟨by show 2 ≤ sizeLine; decide, fun u hu => q u hu⟩) fun p1 l H3 e1 d1 w1 => ?_)
  obtain ⟨a2, xs2, hx2, hl2, hk2⟩ := w1.s2' rfl
  refine seq_of (b_app w1 (by show 1 ≤ 1000; decide) (vs := [.str ("plan" : Str), .int (xs2.length : Int)]) (due := [.str ("plan" : Str), .int (pl.length : Int)]) (.cons (.str _) (.cons (by rw [hl2, List.length_map]; exact .int _) .nil))
    (fun H' e Q q => ⟨_, hx2, a2, xs2, rfl, .inl (SqL.of (hk2 H' e)), by show 2 ≤ sizeLine; decide, fun u hu => q u hu⟩) fun p2 H4 e2 d2 w2 => ?_)
  refine seq_of (b_app w2 (by show 2 ≤ 1000; decide) (vs := [.str ("size" : Str), .str ("many" : Str)]) (due := [.str ("size" : Str), .str ("many" : Str)]) (.cons (.str _) (.cons (.str _) .nil))
    (fun H' _ Q q => ⟨by show 2 ≤ sizeLine; decide, fun u hu => q u hu⟩) fun p3 H5 e3 d3 w3 => ?_)
  refine seq_of (b_app w3 (by show 3 ≤ 1000; decide) (vs := [.str ("none" : Str)]) (due := [.str ("none" : Str)]) (.cons (.str _) .nil)
    (fun H' _ Q q => ⟨by show 1 ≤ sizeLine; decide, fun u hu => q u hu⟩) fun p4 H6 e4 d4 w4 => ?_)
  dsimp only
  refine sd_run (W := wdL i H6 w4.j) (t := tSeq _ _) (E := { nx := fun _ => False, rt := fun d => d = .bl true }) ?_ w4.st ⟨fun _ _ _ _ _ _ z => z.elim, fun x G H d c r e => by subst e; cases r; exact hQ _, fun _ _ _ _ _ _ z => z.elim, fun _ _ _ _ _ _ z => z.elim⟩
  have gen : ∀ p ∈ [p1] ++ [p2] ++ [p3] ++ [p4], Dl.pl 1 (.tup p.due) = true ∧ ∃ tl, LamK (rX P w K mg base A._law_refusals c B outer s H E) 6 p.f p.c (lPar p.e) (lBody p.e) (lScope p.e) tl ∧
      ∀ u3 u4 u5, Says (wdL i H6 w4.j) [.dat (.any (.ref i.1)), .dat (.int (M : Int)), .dat (.lst (pl.map Pl.dd)), u3, u4, u5, .dat odd, .dat (.lst (pl.map Pl.dd ++ [.tup st.ds]))] A tl p.due := by
    intro p hp
    have hp : p = p1 ∨ p = p2 ∨ p = p3 ∨ p = p4 := by simpa using hp
    have hall : StpAll (pl.map Pl.dd ++ [.tup st.ds]) (pl.map Pl.stp ++ [st]) := stpAll_snoc (stpAll_pl pl) kn
    have hl1 : 1 ≤ (pl.map Pl.stp ++ [st]).length := by simp
    have hl2 : (pl.map Pl.stp ++ [st]).length ≤ 20 := by rw [List.length_append, List.length_map]; show pl.length + 1 ≤ 20; omega
    have hbad : badAt (M : Int) 0 (pl.map Pl.stp ++ [st]) = some pl.length := by
      have := badAt_snoc (st := st) (planOk_bad hpl) (by rw [List.length_map, Nat.zero_add]; exact hst)
      rw [List.length_map, Nat.zero_add] at this
      exact this
    rcases hp with rfl | rfl | rfl | rfl
    · exact ⟨by rw [d1]; decide +kernel, lt1 A, by rw [e1]; exact lam1 T, fun _ _ _ => by rw [d1]; exact says1 rfl hodd⟩
    · exact ⟨by rw [d2]; show (PyData.strOk ("plan" : Str) && (true && true)) = true; decide +kernel, lt2 A, by rw [e2]; exact lam2 T, fun _ _ _ => by rw [d2]; exact says2 rfl rfl m1 (by omega) hall hl1 hl2 hbad⟩
    · exact ⟨by rw [d3]; decide +kernel, lt3 A, by rw [e3]; exact lam3 T, fun _ _ _ => by rw [d3]; exact says3 rfl rfl rfl rfl hall hl1 hl2⟩
    · exact ⟨by rw [d4]; decide +kernel, lt4 A, by rw [e4]; exact lam4 T, fun _ _ _ => by rw [d4]; exact says4⟩
  have one : ∀ k, k < 4 → ∃ p ∈ [p1] ++ [p2] ++ [p3] ++ [p4], itemsOf (([p1] ++ [p2] ++ [p3] ++ [p4]).map Pr.dd) k = p.dd := by
    intro k hk
    match k, hk with
    | 0, _ => exact ⟨p1, by simp, rfl⟩
    | 1, _ => exact ⟨p2, by simp, rfl⟩
    | 2, _ => exact ⟨p3, by simp, rfl⟩
    | 3, _ => exact ⟨p4, by simp, rfl⟩
  refine sd_seq (sd_for (vs := [4, 5]) (wfp_seq ?_))
  refine evp_new (evf_lstD (eva_cons (evp_callL0 rfl rfl ?_)))
  repeat (wtm_at "d")
  refine ⟨rfl, _, _, rfl, .lst _, by show 0 < 4; decide, by show 4 ≤ 1000; decide, fun k hk => ?_⟩
  obtain ⟨q1, hq1, eq1⟩ := one k hk
  rw [eq1]
  refine eva_cons (evp_callL0 rfl rfl ?_)
  repeat (wtm_at "d")
  refine ⟨rfl, _, _, rfl, .lst _, by show 0 < 4; decide, by show 4 ≤ 1000; decide, fun k2 hk2 => ?_⟩
  obtain ⟨q2, hq2, eq2⟩ := one k2 hk2
  rw [eq2]
  refine eva_nil ⟨_, rfl, Nat.le_of_ble_eq_true rfl, ?_⟩
  refine ⟨_, .lst _, fun j ρ => ∃ u4 u5, ρ = [.dat (.any (.ref i.1)), .dat (.int (M : Int)), .dat (.lst (pl.map Pl.dd)), .dat (.lst (([p1] ++ [p2] ++ [p3] ++ [p4]).map Pr.dd)), u4, u5, .dat odd, .dat (.lst (pl.map Pl.dd ++ [.tup st.ds]))], ⟨_, _, rfl⟩, fun j ρ hj hI => ?_, fun ρ hI => ?_⟩
  · obtain ⟨u4, u5, rfl⟩ := hI
    obtain ⟨p, hp, ep⟩ : ∃ p ∈ [p1] ++ [p2] ++ [p3] ++ [p4], itemsOf [q1.dd, q2.dd] j = p.dd := by
      match j, hj with
      | 0, _ => exact ⟨q1, hq1, rfl⟩
      | 1, _ => exact ⟨q2, hq2, rfl⟩
    show GaP _ _ _ (.dat (itemsOf [q1.dd, q2.dd] j)) _ _
    rw [ep]
    obtain ⟨hpl1, tl, LK, hs⟩ := gen p hp
    refine gap_tup rfl (gas_cons (gap_name (by decide) (gas_cons (gap_name (by decide) (gas_nil ?_)))))
    repeat (wtm_at "d")
    refine evp_lamCall rfl LK (w4.prs p hp) (fun a m => dJ_lst w4.j m) (hs _ _ _) ?_
    repeat (wtm_at "d")
    refine opp_ne (n := 1) (by decide) (nn _) (nn _) hpl1 hpl1 fun q hq => ?_
    have hq : q = false := by
      cases q with
      | false => rfl
      | true => exact absurd rfl (hq.mp rfl)
    subst hq
    refine ⟨_, rfl, fun h => Bool.noConfusion h, fun _ => ?_⟩
    repeat (wtm_at "d")
    exact ⟨_, _, rfl⟩
  · repeat (wtm_at "d")
    rfl
end Dl

set_option Elab.async false
set_option linter.all false
set_option maxRecDepth 100000
set_option maxHeartbeats 1000000
namespace Dl
open PySem PySem.Spec PyProof.Rows L2
local macro_rules | `(tactic| wtm_at "d") => `(tactic| first
  | with_reducible refine sd_seq ?_ | with_reducible refine sd_if ?_ | with_reducible refine sd_ret ?_
  | with_reducible refine evp_op ?_ | with_reducible refine evp_un ?_ | with_reducible refine evp_cb ?_ | with_reducible refine evp_tupD ?_
  | with_reducible refine evp_andV ?_ | with_reducible refine evp_orV ?_ | with_reducible refine evp_notV ?_ | with_reducible refine evp_if ?_
  | with_reducible refine evt_test ?_ | with_reducible refine evt_B ?_ | with_reducible refine evt_and ?_ | with_reducible refine evt_or ?_ | with_reducible refine evt_not ?_
  | with_reducible refine eva_cons ?_ | with_reducible refine eva_nil ?_
  | with_reducible refine evp_int ?_ | with_reducible refine evp_str ?_ | with_reducible refine evp_bl ?_ | with_reducible refine evp_non ?_ | with_reducible refine evp_any ?_
  | (with_reducible refine evp_isv ?_; refine evp_dat rfl ?_)
  | with_reducible refine evp_callP ?_ | with_reducible refine evp_chain ?_
  | with_reducible refine sd_next ?_
  | with_reducible refine opp_add ?_ | with_reducible refine opp_sub ?_ | with_reducible refine opp_lt ?_ | with_reducible refine opp_le ?_ | with_reducible refine opp_gt ?_ | with_reducible refine opp_ge ?_
  | with_reducible refine opp_isN ?_ | with_reducible refine opp_notN ?_ | with_reducible refine unp_neg ?_
  | with_reducible refine ex_bl ?_ | with_reducible refine ex_dat ?_ | with_reducible refine ex_int ?_)
local macro_rules | `(tactic| wtm_at "e") => `(tactic| first | wtm_at "d" | with_reducible refine sd_set ?_)
variable {P : Program} {w : World} {K : PySem.W.Frag} {mg : Str → Option Value} {base : Heap} {A : Ads}
local macro_rules | `(tactic| wtm_at "f") => `(tactic| first | wtm_at "e" | (with_reducible refine evp_new (evf_lstD ?_)) | (refine ⟨_, rfl, Nat.le_of_ble_eq_true rfl, ?_⟩))
open LamX
/-! law -/
theorem pair_imp {R R' : V → Slot → Prop} (k : ∀ x s, R x s → R' x s) : ∀ {xs : List V} {ss : List Slot}, Paired R xs ss → Paired R' xs ss
  | _, _, .nil => .nil
  | _, _, .cons h t => .cons (k _ _ h) (pair_imp k t)
theorem pair_app {R : V → Slot → Prop} : ∀ {xs ys : List V} {ss ts : List Slot}, Paired R xs ss → Paired R ys ts → Paired R (xs ++ ys) (ss ++ ts)
  | _, _, _, _, .nil, h => h
  | _, _, _, _, .cons h t, k => .cons h (pair_app t k)
theorem pair_take {R : V → Slot → Prop} : ∀ {xs : List V} {ss : List Slot} (n : Nat), Paired R xs ss → Paired R (xs.take n) (ss.take n)
  | _, _, 0, _ => .nil
  | _, _, _ + 1, .nil => .nil
  | _, _, n + 1, .cons h t => .cons h (pair_take n t)
/-- a call with a keyword at the end -/
theorem evp_callK1 {W : Wd} {ρ : List Slot} {P : Slot → Prop} {C : List Slot → (DD → Prop) → ErrP → Prop} {E : XK} {t tk : TA} (h : EvA W t ρ fun ss => EvA W tk ρ fun ts => okArgs (ss ++ ts.take 1) = true ∧ C ((ss ++ ts.take 1).map toArg) (fun d => P (.dat d)) (fun _ _ _ => False)) :
    EvP W (tCallK (spE NoM AnyJ C) (fun vs zs => vs ++ zs.take 1) E t tk) ρ P := fun σ G H S Q q =>
  h σ G H S _ fun xs G1 H1 ss f1 v1 h1 => h1 σ G1 H1 (S.go f1) _ fun ys G2 H2 ts f2 v2 ⟨ho, hc⟩ => by
    have c := (S.cur.trans f1).trans f2
    refine ⟨G2, (ss ++ ts.take 1).map toArg, _, fun _ _ _ => False, f2.gh, trivial, (fun _ z => z.elim), ?_, hc, fun v G3 H3 d f3 rv p => ?_, fun _ _ _ _ _ _ _ _ _ _ z => z.elim⟩
    · exact args_ok (fun _ z => z.elim) (pair_app (pair_imp (fun x s h => h.go f2) v1) (pair_take 1 v2)) (okArgs_all ho)
    · exact q v G3 H3 (.dat d) ((f1.trans f2).trans (Fr.lift c f3)) rv p
def reprO : Option Nat → Str
  | none => ("None" : Str)
  | some n => toString ((n : Nat) : Int)
theorem cap_reprO {W : Wd} {P : Slot → Prop} {o : Option Nat} (hn : ∀ n, o = some n → n ≤ 1000) (k : P (.dat (.str (reprO o)))) : CaP W cReprA [.dat (optD o)] P := by
  cases o with
  | none => exact cap_reprN k
  | some n => exact cap_reprI (log2_small (by have := hn n rfl; omega) (by have := hn n rfl; omega)) k
theorem evt_due {W : Wd} {ρ : List Slot} {t : TT} {PB : Bool → Prop} {c : Bool} (h : c = true → EvT W t ρ fun b => b = true) (k : PB false) : (c = true → EvT W (tNot t) ρ PB) ∧ (c = false → PB false) :=
  ⟨fun e => evt_not ((h e).imp fun b hb => by subst hb; exact k), fun _ => k⟩
theorem evt_and2 {W : Wd} {ρ : List Slot} {u : TT} {PB : Bool → Prop} {c : Bool} (h : c = true → EvT W u ρ fun b => b = false) (k : PB false) : (c = true → EvT W u ρ PB) ∧ (c = false → PB false) :=
  ⟨fun e => (h e).imp fun b hb => by subst hb; exact k, fun _ => k⟩
theorem none_opt {o : Option Nat} (h : isNoneD (optD o) = true) : o = none := by
  cases o with
  | none => rfl
  | some n => cases h
theorem lf_lt {pl : List Pl} {rows : List (List Nat)} : ∀ {r : List Pl} {i n : Nat}, lfAt pl rows i r = some n → n < i + r.length
  | [], _, _, h => by cases h
  | .v k :: r, i, n, h => by
    have := lf_lt (r := r) (i := i + 1) h
    rw [List.length_cons]; omega
  | .m b c y :: r, i, n, h => by
    unfold lfAt at h
    by_cases e : (kinB pl rows b c && kinB pl rows b y) = true
    · rw [if_pos e] at h
      have := lf_lt h
      rw [List.length_cons]; omega
    · rw [if_neg e] at h
      cases h
      rw [List.length_cons]; omega
/-- elder_fault tells what _law_fault tells -/
theorem c_ef {M : Nat} {s : Slot} {es : List DD} {pl : List Pl} {R : DD → Prop} {RE : ErrP} (hok : PlanOk M pl) (m1 : 1 ≤ M) (m12 : M ≤ 12) (l1 : 1 ≤ pl.length) (l20 : pl.length ≤ 20) (hs : LeS s es) (ha : StpAll es (pl.map Pl.stp))
    (hR : R (optD (lfAt pl (rowsOf pl) 0 pl))) : c_elder_fault A [.dat (.int (M : Int)), s] R RE := by
  refine ⟨_, _, .int, es, pl.map Pl.stp, rfl, rfl, hs, ha, by rw [List.length_map]; exact l1, by rw [List.length_map]; exact l20, fun h => ?_, fun M' e _ => ?_⟩
  · have h : okMany (.int (M : Int)) = false := h
    rw [okMany_nat m1 m12] at h; cases h
  · have e : (M : Int) = M' := DD.int.inj e
    subst e
    refine ⟨fun at' h => ?_, fun _ => ⟨pl, eldL pl pl.length, rfl, eld_ok hok.1 l20, ?_⟩⟩
    · rw [planOk_bad hok] at h; cases h
    · rw [fault_eq hok.1]; exact hR
/-- what an earlier turn leaves -/
def EarlOk (e : DD) : Prop := ∃ (M : Nat) (pl : List Pl), PlanOk M pl ∧ 1 ≤ M ∧ M ≤ 6 ∧ 1 ≤ pl.length ∧ pl.length ≤ 12 ∧ e = .tup [.int (M : Int), .lst (pl.map Pl.dd), .str (reprO (lfAt pl (rowsOf pl) 0 pl))]
def spLaw (K : PySem.W.Frag) (Pt : Addr) : Sp := fun vs H Q _ => ∃ (a : Addr) (ns : List Int), vs = [.ref a] ∧ SqL K H a (ns.map V.int) ∧ H Pt = some (.tbl #[]) ∧ ∀ H2, Q (.bl true) H2
theorem okF_law (T : TxL P K mg A) {c Pt : Addr} {fdF fd : FuncData} (FF : FunC K "_law_refusals" "_law_refusals" s__law_refusals A._law_refusals fdF c) (TB : LamX.TabB base mg c Pt) (F : Fun K "law" "law" s_law A.law fd) : FnOkG P w K mg base CX0 11 A.law fd ["_law_script"] (spLaw K Pt) := by
  obtain ⟨k__law_dealt, fd__law_dealt, G__law_dealt, B__law_dealt⟩ := ok__law_dealt (P := P) (w := w) (base := base) T.toTxt (TxL.n_abs T)
  obtain ⟨k__law_any, fd__law_any, G__law_any, B__law_any⟩ := ok__law_any (P := P) (w := w) (base := base) T.toTxt
  obtain ⟨k__law_plan, fd__law_plan, G__law_plan, B__law_plan⟩ := ok__law_plan (P := P) (w := w) (base := base) T.toTxt
  obtain ⟨k__law_fault, fd__law_fault, G__law_fault, B__law_fault⟩ := ok__law_fault (P := P) (w := w) (base := base) T.toTxt
  obtain ⟨k__law_kept, fd__law_kept, G__law_kept, B__law_kept⟩ := ok__law_kept (P := P) (w := w) (base := base) T.toTxt
  obtain ⟨k__law_planned, fd__law_planned, G__law_planned, B__law_planned⟩ := ok__law_planned (P := P) (w := w) (base := base) T.toTxe
  obtain ⟨k_elder_fault, fd_elder_fault, F_elder_fault, G_elder_fault, B_elder_fault⟩ := okF_elder_fault (P := P) (w := w) (base := base) T.toTxe
  obtain ⟨k__law_refusals, fd__law_refusals, G__law_refusals, B__law_refusals⟩ := ok__law_refusals (P := P) (w := w) (base := base) T FF TB
  refine Fun.okG F sc_law (fun vs H Q E h => by obtain ⟨a, ns, rfl, _⟩ := h; rfl) fun cdv B hgd outer s H vs Q E hr h => ⟨_,
    (pss_cons (ps_set (i := 1) sc_law.nd rfl (Or.inl rfl) (pe_call G__law_dealt (hr.mono (by decide)) (by rfl) T.g__law_dealt k__law_dealt B__law_dealt .nil pass0 (pa_cons (pv 0) pa_nil)))
      (pss_cons (ps_set (i := 2) sc_law.nd rfl (Or.inl rfl) pe_non)
      (pss_cons (ps_for PassesOwn.never rfl (pi_range1 (by rfl) T.n_range (pa_cons pe_int pa_nil)) (pg_name (i := 3) sc_law.nd rfl (Or.inl rfl))
      (pss_cons (ps_set (i := 4) sc_law.nd rfl (Or.inl rfl) (pe_op op_addU pe_int (pe_call G__law_any (hr.mono (by decide)) (by rfl) T.g__law_any k__law_any B__law_any .nil pass0 (pa_cons (pv 1) (pa_cons pe_int pa_nil)))))
      (pss_cons (ps_set (i := 5) sc_law.nd rfl (Or.inl rfl) (pe_call G__law_plan (hr.mono (by decide)) (by rfl) T.g__law_plan k__law_plan B__law_plan .nil pass0 (pa_cons (pv 1) (pa_cons (pv 4) pa_nil))))
      (pss_cons (ps_setLc (i := 6) (own := [("_law_step", 11)]) (g := (gName 11)) (by rfl) sc_law.nd rfl rfl (sw_true rfl rfl rfl (by decide +kernel)) (pi_seqK (K := K) rfl (pv 5)) (blkOk_by (own := [("_law_step", 11)]) (N := N_law) (sc := defScope s_law) (by decide +kernel)) (fun _ _ _ _ _ => (pg_name (i := 11) sc_law.nd rfl (Or.inl rfl))) (fun _ _ _ _ _ => pts_nil) (fun _ _ _ _ _ => (pe_callTy (T := "list") (r := cLst K) call_cLst (by rfl) T.n_list (by decide +kernel) (pa_cons (pv 11) pa_nil))))
      (pss_cons (ps_set (i := 7) sc_law.nd rfl (Or.inl rfl) (pe_call G_elder_fault (hr.mono (by decide)) (by rfl) T.g_elder_fault k_elder_fault B_elder_fault .nil passL (pa_cons (pv 4) (pa_cons (pv 6) pa_nil))))
      (pss_cons (ps_set (i := 8) sc_law.nd rfl (Or.inl rfl) (pe_call G__law_fault (hr.mono (by decide)) (by rfl) T.g__law_fault k__law_fault B__law_fault .nil pass0 (pa_cons (pv 5) pa_nil)))
      (pss_cons (ps_if (PW.pt (pw_or (pt_cmpR (r := rNe) op_ne (pe_callB (r := cReprA) call_reprA (by rfl) T.n_repr (by decide +kernel) (pa_cons (pv 7) pa_nil)) (pe_callB (r := cReprA) call_reprA (by rfl) T.n_repr (by decide +kernel) (pa_cons (pv 8) pa_nil)) (nomark _)) (pw_or1 (PW.pt (pw_and (pt_cmpR op_isN1 (pv 8) pe_non (nomark _)) (pw_and1 (pt_not (pt_val (pe_call G__law_kept (hr.mono (by decide)) (by rfl) T.g__law_kept k__law_kept B__law_kept .nil pass0 (pa_cons (pv 4) (pa_cons (pv 5) pa_nil)))))))))))
      (pss_one (ps_ret pe_bl))
      pss_nil)
      (pss_cons (ps_expr (pe_bm0 PySem.F.plainAttrs_list PySem.F.slot_list_clear PySem.F.type_list_clear mt_clear (pv 6)))
      (pss_cons (ps_set (i := 9) sc_law.nd rfl (Or.inl rfl) (pe_lst pa_nil))
      (pss_cons (ps_for PassesOwn.never rfl (pi_range1 (by rfl) T.n_range (pa_cons (pe_op op_addU pe_int (pe_call G__law_any (hr.mono (by decide)) (by rfl) T.g__law_any k__law_any B__law_any .nil pass0 (pa_cons (pv 1) (pa_cons pe_int pa_nil)))) pa_nil)) (pg_name (i := 10) sc_law.nd rfl (Or.inl rfl))
      (pss_one (ps_expr (pe_bm PySem.F.plainAttrs_list PySem.F.slot_list_append PySem.F.type_list_append mt_append (pv 9) (pa_cons (pe_call G__law_any (hr.mono (by decide)) (by rfl) T.g__law_any k__law_any B__law_any .nil pass0 (pa_cons (pv 1) (pa_cons (pe_callB (r := cMin) (call_cMin rfl) (by rfl) T.n_min (by decide +kernel) (pa_cons pe_int (pa_cons (pe_op op_subI pe_int (pe_callB (r := rSumU K) (cr_sumU rfl) (by rfl) T.n_sum (by decide +kernel) (pa_cons (pv 9) pa_nil))) pa_nil))) pa_nil))) pa_nil)))))
      (pss_cons (ps_if (pt_not (pt_val (pe_callG G__law_planned (gd_deeper hgd) (hr.mono (by decide)) (by rfl) T.g__law_planned k__law_planned B__law_planned pass0 (pa_cons (pv 1) (pa_cons (pv 9) pa_nil)))))
      (pss_one (ps_ret pe_bl))
      pss_nil)
      (pss_cons (ps_if (PW.pt (pw_and (pt_cmpR op_notN1 (pv 2) pe_non (nomark _)) (pw_and1 (pt_cmpR (r := rNe) op_ne (pe_callB (r := cReprA) call_reprA (by rfl) T.n_repr (by decide +kernel) (pa_cons (pe_callK G_elder_fault (hr.mono (by decide)) (by rfl) T.g_elder_fault k_elder_fault (kb_elder_fault1 F_elder_fault) passL (pa_cons (pe_ix (r := rIx K) ix_seq (pv 2) pe_int (fun _ _ => rfl)) pa_nil) (pk_cons (pe_ix (r := rIx K) ix_seq (pv 2) pe_int (fun _ _ => rfl)) pk_nil)) pa_nil)) (pe_ix (r := rIx K) ix_seq (pv 2) pe_int (fun _ _ => rfl)) (nomark _)))))
      (pss_one (ps_ret pe_bl))
      pss_nil)
      (pss_one (ps_set (i := 2) sc_law.nd rfl (Or.inl rfl) (pe_tup (pa_cons (pv 4) (pa_cons (pv 5) (pa_cons (pe_callB (r := cReprA) call_reprA (by rfl) T.n_repr (by decide +kernel) (pa_cons (pv 8) pa_nil)) pa_nil))))))))))))))))))
      (pss_cons (ps_if (pt_cmpR (r := rNeD K) (op_neD hr.units) (pe_call G_elder_fault (hr.mono (by decide)) (by rfl) T.g_elder_fault k_elder_fault B_elder_fault .nil passL (pa_cons pe_int (pa_cons (pe_lst (pa_cons (pe_tup (pa_cons pe_str (pa_cons pe_int pa_nil))) (pa_cons (pe_tup (pa_cons pe_str (pa_cons pe_int pa_nil))) (pa_cons (pe_tup (pa_cons pe_str (pa_cons pe_int (pa_cons pe_int (pa_cons pe_int pa_nil))))) (pa_cons (pe_tup (pa_cons pe_str (pa_cons pe_int (pa_cons pe_int (pa_cons pe_int pa_nil))))) pa_nil))))) pa_nil))) pe_int (nomark _))
      (pss_one (ps_ret pe_bl))
      pss_nil)
      (pss_one (ps_ret (pe_call G__law_refusals (hr.mono (by decide)) (by rfl) T.g__law_refusals k__law_refusals B__law_refusals .nil pass0 (pa_cons (pv 1) (pa_cons (pe_ix (r := rIx K) ix_seq (pv 2) pe_int (fun _ _ => rfl)) (pa_cons (pe_ix (r := rIx K) ix_seq (pv 2) pe_int (fun _ _ => rfl)) pa_nil))))))))))
    , ?_⟩
  obtain ⟨a, ns, rfl, hS, hP, hQ⟩ := h
  refine seq_of ⟨_, rfl, a, ns, rfl, hS, fun i cs bl H2 g n1 n2 c2 => ?_⟩
  have j2 : dJ i H2 := ⟨cs, bl, c2⟩
  have hP2 : H2 Pt = some (.tbl #[]) := g _ _ hP
  have nPt : ¬ dM i Pt := fun m => by
    obtain ⟨xs, z⟩ := dJ_lst j2 m
    rw [hP2] at z; cases z
  obtain ⟨W, hM, hJ, hG0, hH0⟩ : ∃ W : Wd, W.M = dM i ∧ W.J = dJ i ∧ W.G0 = g0 ∧ W.H0 = H2 := ⟨⟨dM i, dJ i, g0, H2, d_jl i, d_jm i, fun _ _ => rfl, (fun _ _ z => by cases z), j2⟩, rfl, rfl, rfl, rfl⟩
  subst hH0
  have S0 := st_dat (W := W) (σ := (start N_law [.ref a]).set 1 (some (.ref i.1))) (os := [none, some (.any (.ref i.1)), none, none, none, none, none, none, none, none, none, none]) rfl fun k d e => by
    match k, e with
    | 1, e => cases e; exact ⟨_, rfl, .any _⟩
    | 0, e => cases e
    | 2, e => cases e
    | 3, e => cases e
    | 4, e => cases e
    | 5, e => cases e
    | 6, e => cases e
    | 7, e => cases e
    | 8, e => cases e
    | 9, e => cases e
    | 10, e => cases e
    | 11, e => cases e
    | n + 12, e => exact absurd e (by simp)
  dsimp only
  refine sd_step (I := fun ρ => ρ = [.no, .dat (.any (.ref i.1)), .dat .non, .no, .no, .no, .no, .no, .no, .no, .no, .no]) S0 ?_ fun σ1 G1 H1 ρ1 S1 g1 e1 => ?_
  · repeat (wtm_at "f")
    rfl
  subst e1
  refine sd_step (I := fun ρ => ∃ e u3 u4 u5 u6 u7 u8 u9 u10 u11, EarlOk e ∧ ρ = [.no, .dat (.any (.ref i.1)), .dat e, u3, u4, u5, u6, u7, u8, u9, u10, u11]) S1 ?_ fun σ3 G3 H3 ρ3 S3 g3 ⟨e, u3, u4, u5, u6, u7, u8, u9, u10, u11, he, e3⟩ => ?_
  · refine sd_for (vs := [3]) (wfp_rng1 ?_)
    repeat (wtm_at "f")
    refine ⟨_, rfl, by decide, by decide, fun j ρ => ∃ e u3 u4 u5 u6 u7 u8 u9 u10 u11, (j = 0 → e = .non) ∧ (1 ≤ j → EarlOk e) ∧ ρ = [.no, .dat (.any (.ref i.1)), .dat e, u3, u4, u5, u6, u7, u8, u9, u10, u11], ⟨_, _, _, _, _, _, _, _, _, _, fun _ => rfl, fun h => absurd h (by decide), rfl⟩, fun j ρ hj hI => ?_, fun ρ hI => ?_⟩
    · obtain ⟨e, u3, u4, u5, u6, u7, u8, u9, u10, u11, he0, he1, rfl⟩ := hI
      refine gap_name (by decide) ?_
      repeat (wtm_at "f")
      refine evp_callL0 hM hJ ?_
      repeat (wtm_at "f")
      refine ⟨rfl, 5, rfl, by decide, by decide, fun r h0 h1 => ?_⟩
      obtain ⟨r, rfl⟩ : ∃ k : Nat, r = (k : Int) := ⟨r.toNat, by omega⟩
      refine opp_add ?_
      obtain ⟨M, eM, m2, m6⟩ : ∃ M : Nat, (2 : Int) + (r : Int) = (M : Int) ∧ 2 ≤ M ∧ M ≤ 6 := ⟨2 + r, by omega, by omega, by omega⟩
      rw [eM]
      repeat (wtm_at "f")
      refine evp_callL0 hM hJ ?_
      repeat (wtm_at "f")
      refine ⟨rfl, M, rfl, by omega, by omega, fun pl hpl l1 l12 => ?_⟩
      refine ⟨_, rfl, ?_⟩
      show SD W _ [.no, .dat (.any (.ref i.1)), .dat e, .dat (.int (j : Int)), .dat (.int (M : Int)), .dat (.lst (pl.map Pl.dd)), u6, u7, u8, u9, u10, u11] _
      refine sd_seq (sd_own (evf_map (wip_seq ?_)))
      repeat (wtm_at "d")
      have hlen : (pl.map Pl.dd).length = pl.length := List.length_map _
      have hdd : ∀ k, k < pl.length → itemsOf (pl.map Pl.dd) k = (pl.getD k default).dd := fun k hk => itemsOf_eq (by rw [List.getElem?_map, List.getElem?_eq_getElem hk, List.getD_eq_getElem?_getD, List.getElem?_eq_getElem hk]; rfl)
      refine ⟨_, .lst _, by rw [hlen]; omega, fun k => .lst (pl.getD k default).stp.ds, fun k hk => ?_, ?_⟩
      · rw [hdd k (by rw [hlen] at hk; exact hk)]
        refine gap_name (by decide) ?_
        repeat (wtm_at "d")
        exact cap_new (caf_list (.tup _) rfl)
      rw [hlen, range_mapf (fun p : Pl => DD.lst p.stp.ds) pl]
      have hstA : StpAll (pl.map fun p : Pl => DD.lst p.stp.ds) (pl.map Pl.stp) := ⟨by simp, fun k st h => by
        rw [List.getElem?_map] at h
        cases z : pl[k]? with
        | none => rw [z] at h; cases h
        | some p =>
          rw [z] at h
          cases h
          exact ⟨.inl (itemsOf_eq (by rw [List.getElem?_map, z]; rfl)), p.kn⟩⟩
      show SD W _ [.no, .dat (.any (.ref i.1)), .dat e, .dat (.int (j : Int)), .dat (.int (M : Int)), .dat (.lst (pl.map Pl.dd)), .seq .own (pl.map fun p : Pl => DD.lst p.stp.ds), u7, u8, u9, u10, u11] _
      refine sd_seq (sd_set (evp_call0 ?_))
      repeat (wtm_at "d")
      refine evp_seq rfl (.seq _ _) ?_
      repeat (wtm_at "d")
      refine ⟨rfl, c_ef (pl := pl) hpl (by omega) (by omega) l1 (by omega) (.seq _) hstA ?_⟩
      repeat (wtm_at "e")
      refine ⟨rfl, _, pl, rfl, .lst _, hpl.1, by omega, ?_⟩
      repeat (wtm_at "e")
      have hlf : ∀ n, lfAt pl (rowsOf pl) 0 pl = some n → n ≤ 1000 := fun n h => by have := lf_lt h; omega
      refine cap_reprO hlf ?_
      repeat (wtm_at "e")
      refine cap_reprO hlf ?_
      refine opp_neS ?_
      rw [decide_eq_true rfl]
      refine ⟨_, rfl, fun h => Bool.noConfusion h, fun _ => ?_⟩
      repeat (wtm_at "e")
      refine evt_due (fun hn => ?_) ⟨fun h => Bool.noConfusion h, fun _ => ?_⟩
      · repeat (wtm_at "d")
        exact ⟨rfl, M, _, pl, cntL M pl pl.length, rfl, .lst _, by omega, hpl.1, by omega, rows_ok hpl.1, kept_ok hpl.1 (none_opt hn), _, rfl, rfl⟩
      repeat (wtm_at "d")
      refine sd_clear (ds := pl.map fun p : Pl => DD.lst p.stp.ds) rfl ?_
      dsimp only
      refine sd_seq (sd_own (evf_lstD ?_))
      repeat (wtm_at "d")
      refine ⟨_, rfl, by decide, ?_⟩
      dsimp only
      show SD W _ [.no, .dat (.any (.ref i.1)), .dat e, .dat (.int (j : Int)), .dat (.int (M : Int)), .dat (.lst (pl.map Pl.dd)), .seq .own [], .dat (optD (lfAt pl (rowsOf pl) 0 pl)), .dat (optD (lfAt pl (rowsOf pl) 0 pl)), .seq .own (nD []), u10, u11] _
      refine sd_seq (sd_for (vs := [10]) (wfp_rng1 ?_))
      repeat (wtm_at "d")
      refine evp_callL0 hM hJ ?_
      repeat (wtm_at "d")
      refine ⟨rfl, 5, rfl, by decide, by decide, fun r2 h2 h3 => ?_⟩
      repeat (wtm_at "d")
      refine ⟨_, rfl, by omega, by omega, fun k ρ => ∃ u10 cs, ρ = [.no, .dat (.any (.ref i.1)), .dat e, .dat (.int (j : Int)), .dat (.int (M : Int)), .dat (.lst (pl.map Pl.dd)), .seq .own [], .dat (optD (lfAt pl (rowsOf pl) 0 pl)), .dat (optD (lfAt pl (rowsOf pl) 0 pl)), .seq .own (nD cs), u10, u11] ∧ cs.length = k ∧ cs.sum ≤ 9, ⟨_, [], rfl, rfl, by decide⟩, fun k ρ hk hI => ?_, fun ρ hI => ?_⟩
      · obtain ⟨u10, cs, rfl, hcl, hcs⟩ := hI
        refine gap_name (by decide) ?_
        refine sd_app (ds := nD cs) rfl (by rw [nD_len]; omega) (evp_callL0 hM hJ ?_)
        repeat (wtm_at "d")
        refine evp_seq rfl (.seq _ _) ?_
        repeat (wtm_at "d")
        refine cap_sumU (ns := cs.map fun c : Nat => (c : Int)) (by rw [List.map_map]; exact .seq _ _) ?_
        rw [sum_cast]
        repeat (wtm_at "d")
        refine cap_min ?_
        repeat (wtm_at "d")
        refine ⟨rfl, _, rfl, by split <;> omega, by split <;> omega, fun r3 h4 h5 => ?_⟩
        obtain ⟨r3, rfl⟩ : ∃ k : Nat, r3 = (k : Int) := ⟨r3.toNat, by omega⟩
        have h6 : cs.sum + r3 ≤ 9 := by split at h5 <;> omega
        exact ⟨_, rfl, .dat (.int (k : Int)), cs ++ [r3], by rw [show nD (cs ++ [r3]) = nD cs ++ [.int (r3 : Int)] by simp [nD]]; rfl, by simp [hcl], by simp; exact h6⟩
      obtain ⟨u10', cs, rfl, hcl, hcs⟩ := hI
      repeat (wtm_at "d")
      refine evp_callL0 hM hJ ?_
      repeat (wtm_at "d")
      refine evp_seq rfl (.seq _ _) ?_
      repeat (wtm_at "d")
      refine ⟨rfl, cs, rfl, by omega, by omega, hcs, fun ms k1 k2 k3 => ep_facts (by omega) (by omega) hcs k1 k2 k3, _, rfl, fun h => Bool.noConfusion h, fun _ => ?_⟩
      repeat (wtm_at "d")
      refine evt_and2 (fun hn => ?_) ⟨fun h => Bool.noConfusion h, fun _ => ?_⟩
      · have hj1 : 1 ≤ j := by
          cases j with
          | zero => rw [he0 rfl] at hn; cases hn
          | succ j => omega
        obtain ⟨M', pl', hpl', a1, a2, a3, a4, rfl⟩ := he1 hj1
        have hlf' : ∀ n, lfAt pl' (rowsOf pl') 0 pl' = some n → n ≤ 1000 := fun n h => by have := lf_lt h; omega
        repeat (wtm_at "d")
        refine evp_callK1 ?_
        repeat (wtm_at "d")
        refine opp_ixn (n := 0) (.tup _) rfl ?_
        repeat (wtm_at "d")
        refine opp_ixn (n := 1) (.tup _) rfl ?_
        repeat (wtm_at "d")
        refine ⟨rfl, c_ef (pl := pl') hpl' a1 (by omega) a3 (by omega) (.lst _) (stpAll_pl pl') ?_⟩
        repeat (wtm_at "d")
        refine cap_reprO hlf' ?_
        repeat (wtm_at "d")
        refine opp_ixn (n := 2) (.tup _) rfl ?_
        refine opp_neS ?_
        rw [decide_eq_true rfl]
        exact ⟨_, rfl, rfl⟩
      repeat (wtm_at "e")
      refine cap_reprO hlf ?_
      repeat (wtm_at "e")
      refine ⟨_, rfl, Nat.le_of_ble_eq_true rfl, _, rfl, ?_⟩
      exact ⟨_, _, _, _, _, _, _, _, _, _, fun h => absurd h (by omega), fun _ => ⟨M, pl, hpl, by omega, by omega, l1, l12, rfl⟩, rfl⟩
    · obtain ⟨e, u3, u4, u5, u6, u7, u8, u9, u10, u11, _, he1, rfl⟩ := hI
      exact ⟨e, u3, u4, u5, u6, u7, u8, u9, u10, u11, he1 (by decide), rfl⟩
  subst e3
  obtain ⟨M, pl, hpl, m1, m6, l1, l12, rfl⟩ := he
  refine sd_step (I := fun ρ => ρ = [.no, .dat (.any (.ref i.1)), .dat (.tup [.int (M : Int), .lst (pl.map Pl.dd), .str (reprO (lfAt pl (rowsOf pl) 0 pl))]), u3, u4, u5, u6, u7, u8, u9, u10, u11]) S3 ?_ fun σ4 G4 H4 ρ4 S4 g4 e4 => ?_
  · have hp0 : PlanOk 2 [.v 0, .v 1, .m 0 1 1, .m 1 2 0] := planOk_snoc (planOk_snoc (planOk_vs (vs := [0, 1]) (by decide)) (by decide) (by decide) (by decide)) (by decide) (by decide) (by decide)
    repeat (wtm_at "d")
    refine evp_call0 ?_
    repeat (wtm_at "f")
    refine ⟨rfl, c_ef (M := 2) (pl := [.v 0, .v 1, .m 0 1 1, .m 1 2 0]) hp0 (by decide) (by decide) (by decide) (by decide) (.lst _) (stpAll_pl [.v 0, .v 1, .m 0 1 1, .m 1 2 0]) ?_⟩
    rw [show lfAt [.v 0, .v 1, .m 0 1 1, .m 1 2 0] (rowsOf [.v 0, .v 1, .m 0 1 1, .m 1 2 0]) 0 [.v 0, .v 1, .m 0 1 1, .m 1 2 0] = some 3 by decide +kernel]
    repeat (wtm_at "d")
    refine opp_ne (n := 1) (by decide) (nn _) (nn _) rfl rfl fun q hq => ?_
    have hq : q = false := by
      cases q with
      | false => rfl
      | true => exact absurd rfl (hq.mp rfl)
    subst hq
    refine ⟨_, rfl, fun h => Bool.noConfusion h, fun _ => ?_⟩
    repeat (wtm_at "d")
    rfl
  subst e4
  have hA : EvA W (tCons (tVar 1) (tCons (tOp (rIx K) (tVar 2) (tC (.int 0))) (tCons (tOp (rIx K) (tVar 2) (tC (.int 1))) tNil))) [.no, .dat (.any (.ref i.1)), .dat (.tup [.int (M : Int), .lst (pl.map Pl.dd), .str (reprO (lfAt pl (rowsOf pl) 0 pl))]), u3, u4, u5, u6, u7, u8, u9, u10, u11]
      (fun ss => ss = [.dat (.any (.ref i.1)), .dat (.int (M : Int)), .dat (.lst (pl.map Pl.dd))]) := by
    repeat (wtm_at "d")
    refine opp_ixn (n := 0) (.tup _) rfl ?_
    repeat (wtm_at "d")
    refine opp_ixn (n := 1) (.tup _) rfl ?_
    repeat (wtm_at "d")
    rfl
  refine hA σ4 G4 H4 S4 (fun vs H1 => spRef Pt (vs ++ []) H1 Q E0) fun xs G5 H5 ss f5 v5 e5 => ?_
  subst e5
  obtain ⟨x, y, z, rfl, v1, v2, v3⟩ := pair3 v5
  cases v1
  cases v2
  have c5 := S4.cur.trans f5
  exact ⟨i, G5, M, pl, z, rfl, f5.gh, by rw [← hJ]; exact c5.j, fun a m => W.gm c5 (by rw [hM]; exact m), v3, hpl, m1, m6, l12, c5.keep Pt _ (by rw [hM]; exact nPt) hP2, hQ⟩
end Dl

open PySem PySem.Spec PyProof.Rows L2
set_option Elab.async false
set_option linter.all false
set_option maxRecDepth 100000
set_option maxHeartbeats 4000000
namespace Dl
/-! ### what the head leaves -/
theorem errC_mk {prog : Program} {K : PySem.W.Frag} {mg : Str → Option Value} {C : Addr} {f nm q : Str} {N : Addr} {bs bm : List Value} {sn : List Str} {sub : List Value} {ab : Bool} {col : Option Bool} {dd : Option Addr} {k0 k1 k2 k3 k5 : Option Value}
    {fI cc cda : Addr} {qi : Str} {ar : Arg} {ars : List Arg} {msg : Str} {j : Nat} {p0 p1 p2 p3 p4 p5 p6 p7 p8 p9 : Pos} {scope : Scope} {va : Option Arg} {ko : List Arg} {kd : List (Option Expr)} {ka : Option Arg} {df : List Expr} {dV kV doc pm ct oc ccl cl : Value} {an od cdd cld : Option Addr} {osl ccs csl : Array (Option Value)} {vs : Array Value} {file : Str} {tf : Tok}
    (h1 : K.lookup C = some (excClassObj nm q C N bs bm true sn sub ab col dd k0 k1 k2 k3 k5 "Exception.__new__")) (h2 : PySem.W.excTail ESX.exTail bm = true)
    (i1 : PySem.W.findIn K (.ref C) "__init__" = some (some (.ref fI))) (i2 : PySem.W.typeIn K (.ref fI) = some (.type "function"))
    (i3 : K.lookup fI = some ⟨oc, od, .func (PySem.W.ksFn "__init__" qi ⟨[], ar :: ars, va, ko, kd, ka, df⟩ (errBody f msg j p0 p1 p2 p3 p4 p5 p6 p7 p8 p9) scope dV kV doc pm an (.ref cda) ct cc), osl⟩)
    (i4 : PySem.W.codeIn K (.ref cda) qi = true) (i5 : scope.names.lookup ("self" : Str) = some .local) (i6 : scope.names.lookup f = some .local) (i7 : scope.names.lookup ("super" : Str) = some .globalImplicit) (i8 : scope.names.lookup ("__class__" : Str) = some .free) (i9 : ∀ x ∈ scope.names, x.2 ≠ .cell)
    (i10 : scope.kind = .function) (i11 : scope.isCoroutine = false) (i12 : scope.isGenerator = false) (i13 : ar.arg = "self") (i14 : K.lookup cda = some ⟨ccl, cdd, .fields vs, ccs⟩) (i15 : vs[2]? = some (.str file tf)) (i16 : ((prog.main.file : Str) == file) = true)
    (i17 : K.lookup cc = some ⟨cl, cld, .cell (some (.ref C)), csl⟩)
    (i18 : ∀ (s : Shared) (us : List Value), K.In s.heap → us.length = 2 → BindsTo s (PySem.W.ksFn "__init__" qi ⟨[], ar :: ars, va, ko, kd, ka, df⟩ (errBody f msg j p0 p1 p2 p3 p4 p5 p6 p7 p8 p9) scope dV kV doc pm an (.ref cda) ct cc) ⟨us, []⟩ ([("self" : Str), f].zip us))
    (i19 : ∀ L, SupReads msg j p0 p1 p2 p3 p4 p5 (callEnv (PySem.W.ksFn "__init__" qi ⟨[], ar :: ars, va, ko, kd, ka, df⟩ (errBody f msg j p0 p1 p2 p3 p4 p5 p6 p7 p8 p9) scope dV kV doc pm an (.ref cda) ct cc) L fI) ∧ StoReads f p6 p7 p8 p9 (callEnv (PySem.W.ksFn "__init__" qi ⟨[], ar :: ars, va, ko, kd, ka, df⟩ (errBody f msg j p0 p1 p2 p3 p4 p5 p6 p7 p8 p9) scope dV kV doc pm an (.ref cda) ct cc) L fI))
    (sa : PySem.W.findIn K (.ref C) "__setattr__" = some (some (.builtin "object.__setattr__"))) (exC : PySem.W.subIn K (.ref C) (.type "BaseException") = some true) (exE : PySem.W.subIn K (.ref C) (.type "Exception") = some true) (subC : PySem.W.mroIn K C (.ref C) = some true)
    (tyC : PySem.W.typeIn K (.ref C) = some (.type "type")) (kC : PySem.W.keepIn K (.ref C) = true) (no : PySem.W.findIn K (.ref C) f = some none) (sup : PySem.W.ks_superIn K C C "__init__" = some (some (.builtin "Exception.__init__")))
    (opq : PySem.W.nsIn K cStatics "thirdparty.any" = some none) (super : mg "super" = none) (top : (prog.main.scope.names.lookup ("super" : Str)).isSome = false) (fd : (f == ("__debug__" : Str)) = false) (fc : (f == ("__classdict__" : Str)) = false) (fs : f ≠ ("self" : Str)) : ErrC prog K mg C f where
  cls := ⟨nm, q, N, bs, bm, sn, sub, ab, col, dd, k0, k1, k2, k3, k5, h1, h2⟩
  ini := ⟨fI, cc, cda, qi, ar, ar, msg, j, p0, p1, p2, p3, p4, p5, p6, p7, p8, p9, scope, _, dV, kV, doc, pm, ct, oc, ccl, cl, an, od, cdd, cld, osl, ccs, csl, vs, file, tf, i1, i2, i3, i4, i5, i6, i7, i8, i9, i10, i11, i12, rfl, i13, i14, i15, i16, i17, i18, i19⟩
  sa := sa
  exC := exC
  exE := exE
  subC := subC
  tyC := tyC
  kC := kC
  no := no
  sup := sup
  opq := opq
  super := super
  top := top
  fd := fd
  fc := fc
  fs := fs
theorem bind_dfl {K : PySem.W.Frag} {fd : FuncData} {s : Shared} {us : List Value} {T : Addr} {o : Obj} {its : Array Value} {n : Nat} {binds : List (Str × Value)} (X : K.In s.heap) (lT : K.lookup T = some o) (oT : o.data = .seq its n)
    (h : ∃ k, bindArgs fd ⟨us, []⟩ = seqItems? (.ref T) >>= k ∧ k (some its) = pure binds) : BindsTo s fd ⟨us, []⟩ binds := by
  obtain ⟨k, e1, e2⟩ := h
  exact BindsTo.of_looks fun M => by rw [e1]; exact looks_items X lT oT (.of_pure e2)
theorem func_mk {K : PySem.W.Frag} {x qual : Str} {st : Stmt} {f c : Addr} {oc : Value} {od an : Option Addr} {osl : Array (Option Value)} {kV doc pm ct : Value} (l : K.lookup f = some ⟨oc, od, .func (PySem.W.fnOf x qual (defArgs st) (defBody st) (defScope st) .none kV doc pm an (.ref c) ct), osl⟩)
    (k : PySem.W.codeIn K (.ref c) qual = true) (kp : PySem.W.keepIn K (.ref f) = true) : FunC K x qual st f (PySem.W.fnOf x qual (defArgs st) (defBody st) (defScope st) .none kV doc pm an (.ref c) ct) c := ⟨⟨oc, od, kV, doc, pm, an, ct, osl, rfl, l, k⟩, kp⟩
theorem fund_mk {K : PySem.W.Frag} {x qual : Str} {st : Stmt} {f D : Addr} {oc : Value} {od an : Option Addr} {osl : Array (Option Value)} {kV doc pm cdv ct : Value} {o : Obj} {its : List Value} {dvs : List V} {n : Nat} (l : K.lookup f = some ⟨oc, od, .func (PySem.W.fnOf x qual (defArgs st) (defBody st) (defScope st) (.ref D) kV doc pm an cdv ct), osl⟩)
    (k : PySem.W.codeIn K cdv qual = true) (kp : PySem.W.keepIn K (.ref f) = true) (hd : K.lookup D = some o) (h2 : o.data = .seq its.toArray n) (hv : Vals dvs its) (hn : dvs ≠ []) : FunD K x qual (defArgs st) (defBody st) (defScope st) dvs [] f (PySem.W.fnOf x qual (defArgs st) (defBody st) (defScope st) (.ref D) kV doc pm an cdv ct) :=
  ⟨⟨oc, od, _, kV, doc, pm, an, cdv, ct, osl, rfl, l, k, .inr ⟨hn, D, o, its, n, rfl, hd, h2, hv⟩, .inl rfl⟩, kp⟩
theorem all_mk {l : PySem.W.OpenLaw} {w : World} {K : PySem.W.Frag} {h : Heap} {mg : Str → Option Value} {fa : Addr} (X : K.In h) (G : h.Ns mainGlobals mg) (hfa : mg "law" = some (.ref fa)) {c Pt : Addr} (hT : h.get? Pt = some { cls := .none, data := .fields #[] })
    {f_is_integer f_is_number f_is_below f_is_sequence f_is_letter f_is_signed f_need_word f_turned f_struck_row f_is_text f_need_text f_need_versions f_text_word f_word_text f_is_step f_need_plan f_step_counts f_plan_counts f_rows_word f_need_few_versions f_plan_texts f_elder_keys f_elder_fault f_elder_plan f__law_dealt f__law_any f__law_of f__law_mixed f__law_refused f__law_elders f__law_same f__law_kin f__law_fault f__law_plan f__law_counts f__law_kept f__law_planned f__law_refusals f_law f_MergeError f_InvalidText f_InvalidVersions f_InvalidWord f_InvalidPlan f_Refused f_InvalidSize : Addr} {fdR : FuncData}
    (a_is_integer : PySem.W.nsIn K mainGlobals "is_integer" = some (some (.ref f_is_integer)))
    (a_is_number : PySem.W.nsIn K mainGlobals "is_number" = some (some (.ref f_is_number)))
    (a_is_below : PySem.W.nsIn K mainGlobals "is_below" = some (some (.ref f_is_below)))
    (a_is_sequence : PySem.W.nsIn K mainGlobals "is_sequence" = some (some (.ref f_is_sequence)))
    (a_is_letter : PySem.W.nsIn K mainGlobals "is_letter" = some (some (.ref f_is_letter)))
    (a_is_signed : PySem.W.nsIn K mainGlobals "is_signed" = some (some (.ref f_is_signed)))
    (a_need_word : PySem.W.nsIn K mainGlobals "need_word" = some (some (.ref f_need_word)))
    (a_turned : PySem.W.nsIn K mainGlobals "turned" = some (some (.ref f_turned)))
    (a_struck_row : PySem.W.nsIn K mainGlobals "struck_row" = some (some (.ref f_struck_row)))
    (a_is_text : PySem.W.nsIn K mainGlobals "is_text" = some (some (.ref f_is_text)))
    (a_need_text : PySem.W.nsIn K mainGlobals "need_text" = some (some (.ref f_need_text)))
    (a_need_versions : PySem.W.nsIn K mainGlobals "need_versions" = some (some (.ref f_need_versions)))
    (a_text_word : PySem.W.nsIn K mainGlobals "text_word" = some (some (.ref f_text_word)))
    (a_word_text : PySem.W.nsIn K mainGlobals "word_text" = some (some (.ref f_word_text)))
    (a_is_step : PySem.W.nsIn K mainGlobals "is_step" = some (some (.ref f_is_step)))
    (a_need_plan : PySem.W.nsIn K mainGlobals "need_plan" = some (some (.ref f_need_plan)))
    (a_step_counts : PySem.W.nsIn K mainGlobals "step_counts" = some (some (.ref f_step_counts)))
    (a_plan_counts : PySem.W.nsIn K mainGlobals "plan_counts" = some (some (.ref f_plan_counts)))
    (a_rows_word : PySem.W.nsIn K mainGlobals "rows_word" = some (some (.ref f_rows_word)))
    (a_need_few_versions : PySem.W.nsIn K mainGlobals "need_few_versions" = some (some (.ref f_need_few_versions)))
    (a_plan_texts : PySem.W.nsIn K mainGlobals "plan_texts" = some (some (.ref f_plan_texts)))
    (a_elder_keys : PySem.W.nsIn K mainGlobals "elder_keys" = some (some (.ref f_elder_keys)))
    (a_elder_fault : PySem.W.nsIn K mainGlobals "elder_fault" = some (some (.ref f_elder_fault)))
    (a_elder_plan : PySem.W.nsIn K mainGlobals "elder_plan" = some (some (.ref f_elder_plan)))
    (a__law_dealt : PySem.W.nsIn K mainGlobals "_law_dealt" = some (some (.ref f__law_dealt)))
    (a__law_any : PySem.W.nsIn K mainGlobals "_law_any" = some (some (.ref f__law_any)))
    (a__law_of : PySem.W.nsIn K mainGlobals "_law_of" = some (some (.ref f__law_of)))
    (a__law_mixed : PySem.W.nsIn K mainGlobals "_law_mixed" = some (some (.ref f__law_mixed)))
    (a__law_refused : PySem.W.nsIn K mainGlobals "_law_refused" = some (some (.ref f__law_refused)))
    (a__law_elders : PySem.W.nsIn K mainGlobals "_law_elders" = some (some (.ref f__law_elders)))
    (a__law_same : PySem.W.nsIn K mainGlobals "_law_same" = some (some (.ref f__law_same)))
    (a__law_kin : PySem.W.nsIn K mainGlobals "_law_kin" = some (some (.ref f__law_kin)))
    (a__law_fault : PySem.W.nsIn K mainGlobals "_law_fault" = some (some (.ref f__law_fault)))
    (a__law_plan : PySem.W.nsIn K mainGlobals "_law_plan" = some (some (.ref f__law_plan)))
    (a__law_counts : PySem.W.nsIn K mainGlobals "_law_counts" = some (some (.ref f__law_counts)))
    (a__law_kept : PySem.W.nsIn K mainGlobals "_law_kept" = some (some (.ref f__law_kept)))
    (a__law_planned : PySem.W.nsIn K mainGlobals "_law_planned" = some (some (.ref f__law_planned)))
    (a__law_refusals : PySem.W.nsIn K mainGlobals "_law_refusals" = some (some (.ref f__law_refusals)))
    (a_law : PySem.W.nsIn K mainGlobals "law" = some (some (.ref f_law)))
    (a_MergeError : PySem.W.nsIn K mainGlobals "MergeError" = some (some (.ref f_MergeError)))
    (a_InvalidText : PySem.W.nsIn K mainGlobals "InvalidText" = some (some (.ref f_InvalidText)))
    (a_InvalidVersions : PySem.W.nsIn K mainGlobals "InvalidVersions" = some (some (.ref f_InvalidVersions)))
    (a_InvalidWord : PySem.W.nsIn K mainGlobals "InvalidWord" = some (some (.ref f_InvalidWord)))
    (a_InvalidPlan : PySem.W.nsIn K mainGlobals "InvalidPlan" = some (some (.ref f_InvalidPlan)))
    (a_Refused : PySem.W.nsIn K mainGlobals "Refused" = some (some (.ref f_Refused)))
    (a_InvalidSize : PySem.W.nsIn K mainGlobals "InvalidSize" = some (some (.ref f_InvalidSize)))
    (F_is_integer : ∃ fd, Fun K "is_integer" "is_integer" s_is_integer f_is_integer fd)
    (F_is_number : ∃ fd, Fun K "is_number" "is_number" s_is_number f_is_number fd)
    (F_is_below : ∃ fd, Fun K "is_below" "is_below" s_is_below f_is_below fd)
    (F_is_sequence : ∃ fd, Fun K "is_sequence" "is_sequence" s_is_sequence f_is_sequence fd)
    (F_is_letter : ∃ fd, Fun K "is_letter" "is_letter" s_is_letter f_is_letter fd)
    (F_is_signed : ∃ fd, Fun K "is_signed" "is_signed" s_is_signed f_is_signed fd)
    (F_turned : ∃ fd, Fun K "turned" "turned" s_turned f_turned fd)
    (F_struck_row : ∃ fd, Fun K "struck_row" "struck_row" s_struck_row f_struck_row fd)
    (F_is_text : ∃ fd, Fun K "is_text" "is_text" s_is_text f_is_text fd)
    (F_need_versions : ∃ fd, Fun K "need_versions" "need_versions" s_need_versions f_need_versions fd)
    (F_text_word : ∃ fd, Fun K "text_word" "text_word" s_text_word f_text_word fd)
    (F_word_text : ∃ fd, Fun K "word_text" "word_text" s_word_text f_word_text fd)
    (F_is_step : ∃ fd, Fun K "is_step" "is_step" s_is_step f_is_step fd)
    (F_need_plan : ∃ fd, Fun K "need_plan" "need_plan" s_need_plan f_need_plan fd)
    (F_step_counts : ∃ fd, Fun K "step_counts" "step_counts" s_step_counts f_step_counts fd)
    (F_plan_counts : ∃ fd, Fun K "plan_counts" "plan_counts" s_plan_counts f_plan_counts fd)
    (F_rows_word : ∃ fd, Fun K "rows_word" "rows_word" s_rows_word f_rows_word fd)
    (F_need_few_versions : ∃ fd, Fun K "need_few_versions" "need_few_versions" s_need_few_versions f_need_few_versions fd)
    (F_plan_texts : ∃ fd, Fun K "plan_texts" "plan_texts" s_plan_texts f_plan_texts fd)
    (F_elder_keys : ∃ fd, Fun K "elder_keys" "elder_keys" s_elder_keys f_elder_keys fd)
    (F_elder_fault : ∃ fd, Fun K "elder_fault" "elder_fault" s_elder_fault f_elder_fault fd)
    (F_elder_plan : ∃ fd, Fun K "elder_plan" "elder_plan" s_elder_plan f_elder_plan fd)
    (F__law_dealt : ∃ fd, Fun K "_law_dealt" "_law_dealt" s__law_dealt f__law_dealt fd)
    (F__law_any : ∃ fd, Fun K "_law_any" "_law_any" s__law_any f__law_any fd)
    (F__law_of : ∃ fd, Fun K "_law_of" "_law_of" s__law_of f__law_of fd)
    (F__law_mixed : ∃ fd, Fun K "_law_mixed" "_law_mixed" s__law_mixed f__law_mixed fd)
    (F__law_refused : ∃ fd, Fun K "_law_refused" "_law_refused" s__law_refused f__law_refused fd)
    (F__law_elders : ∃ fd, Fun K "_law_elders" "_law_elders" s__law_elders f__law_elders fd)
    (F__law_same : ∃ fd, Fun K "_law_same" "_law_same" s__law_same f__law_same fd)
    (F__law_kin : ∃ fd, Fun K "_law_kin" "_law_kin" s__law_kin f__law_kin fd)
    (F__law_fault : ∃ fd, Fun K "_law_fault" "_law_fault" s__law_fault f__law_fault fd)
    (F__law_plan : ∃ fd, Fun K "_law_plan" "_law_plan" s__law_plan f__law_plan fd)
    (F__law_counts : ∃ fd, Fun K "_law_counts" "_law_counts" s__law_counts f__law_counts fd)
    (F__law_kept : ∃ fd, Fun K "_law_kept" "_law_kept" s__law_kept f__law_kept fd)
    (F__law_planned : ∃ fd, Fun K "_law_planned" "_law_planned" s__law_planned f__law_planned fd)
    (F_law : ∃ fd, Fun K "law" "law" s_law f_law fd)
    (F_need_word : ∃ fd, FunD K "need_word" "need_word" (defArgs s_need_word) (defBody s_need_word) (defScope s_need_word) [.int (-1)] [] f_need_word fd)
    (F_need_text : ∃ fd, FunD K "need_text" "need_text" (defArgs s_need_text) (defBody s_need_text) (defScope s_need_text) [.int (-1)] [] f_need_text fd)
    (F__law_refusals : FunC K "_law_refusals" "_law_refusals" s__law_refusals f__law_refusals fdR c) (hC : PySem.W.codeHdIn K c Pt = true) (nP : K.lookup Pt = none)
    (n_all : PySem.W.nsIn K mainGlobals "all" = some none)
    (n_bool : PySem.W.nsIn K mainGlobals "bool" = some none)
    (n_enumerate : PySem.W.nsIn K mainGlobals "enumerate" = some none)
    (n_int : PySem.W.nsIn K mainGlobals "int" = some none)
    (n_isinstance : PySem.W.nsIn K mainGlobals "isinstance" = some none)
    (n_len : PySem.W.nsIn K mainGlobals "len" = some none)
    (n_list : PySem.W.nsIn K mainGlobals "list" = some none)
    (n_min : PySem.W.nsIn K mainGlobals "min" = some none)
    (n_range : PySem.W.nsIn K mainGlobals "range" = some none)
    (n_repr : PySem.W.nsIn K mainGlobals "repr" = some none)
    (n_set : PySem.W.nsIn K mainGlobals "set" = some none)
    (n_sorted : PySem.W.nsIn K mainGlobals "sorted" = some none)
    (n_sum : PySem.W.nsIn K mainGlobals "sum" = some none)
    (n_tuple : PySem.W.nsIn K mainGlobals "tuple" = some none)
    (n_zip : PySem.W.nsIn K mainGlobals "zip" = some none)
    (n_abs : PySem.W.nsIn K mainGlobals "abs" = some none)
    (n_super : PySem.W.nsIn K mainGlobals "super" = some none)
    {t_MANY_LETTERS t_MOST_COUNTED t_MOST_ELDERS t_MOST_STEPS t_MOST_VERSIONS : Tok}
    (c_MANY_LETTERS : PySem.W.nsIn K mainGlobals "MANY_LETTERS" = some (some (.int 100 t_MANY_LETTERS)))
    (c_MOST_COUNTED : PySem.W.nsIn K mainGlobals "MOST_COUNTED" = some (some (.int 9 t_MOST_COUNTED)))
    (c_MOST_ELDERS : PySem.W.nsIn K mainGlobals "MOST_ELDERS" = some (some (.int 5 t_MOST_ELDERS)))
    (c_MOST_STEPS : PySem.W.nsIn K mainGlobals "MOST_STEPS" = some (some (.int 20 t_MOST_STEPS)))
    (c_MOST_VERSIONS : PySem.W.nsIn K mainGlobals "MOST_VERSIONS" = some (some (.int 12 t_MOST_VERSIONS)))
    (e_size : mg "super" = none → ErrC l.prog K mg f_InvalidSize "word") (e_plan : mg "super" = none → ErrC l.prog K mg f_InvalidPlan "at") (x_size : xfB K f_InvalidSize = true) (x_plan : xfB K f_InvalidPlan = true)
    (w_size : PySem.W.findIn K (.ref f_InvalidSize) "word" = some none) (w_plan : PySem.W.findIn K (.ref f_InvalidPlan) "at" = some none)
    (m_ss : PySem.W.exmOne K (.ref f_InvalidSize) (.ref f_InvalidSize) = some true) (m_ps : PySem.W.exmOne K (.ref f_InvalidPlan) (.ref f_InvalidSize) = some false) (m_pp : PySem.W.exmOne K (.ref f_InvalidPlan) (.ref f_InvalidPlan) = some true) :
    LawAtG l w K CX0 11 63 "_law_script" mg fa h := by
  have e := hfa.symm.trans (PySem.W.mg_of X G a_law)
  cases e
  have T : TxL l.prog K mg ⟨f_is_integer, f_is_number, f_is_below, f_is_sequence, f_is_letter, f_is_signed, f_need_word, f_turned, f_struck_row, f_is_text, f_need_text, f_need_versions, f_text_word, f_word_text, f_is_step, f_need_plan, f_step_counts, f_plan_counts, f_rows_word, f_need_few_versions, f_plan_texts, f_elder_keys, f_elder_fault, f_elder_plan, f__law_dealt, f__law_any, f__law_of, f__law_mixed, f__law_refused, f__law_elders, f__law_same, f__law_kin, f__law_fault, f__law_plan, f__law_counts, f__law_kept, f__law_planned, f__law_refusals, fa, f_MergeError, f_InvalidText, f_InvalidVersions, f_InvalidWord, f_InvalidPlan, f_Refused, f_InvalidSize⟩ :=
    { F_is_integer := F_is_integer,
      g_is_integer := PySem.W.mg_of X G a_is_integer,
      F_is_number := F_is_number,
      g_is_number := PySem.W.mg_of X G a_is_number,
      F_is_below := F_is_below,
      g_is_below := PySem.W.mg_of X G a_is_below,
      F_is_sequence := F_is_sequence,
      g_is_sequence := PySem.W.mg_of X G a_is_sequence,
      F_is_letter := F_is_letter,
      g_is_letter := PySem.W.mg_of X G a_is_letter,
      F_is_signed := F_is_signed,
      g_is_signed := PySem.W.mg_of X G a_is_signed,
      F_turned := F_turned,
      g_turned := PySem.W.mg_of X G a_turned,
      F_struck_row := F_struck_row,
      g_struck_row := PySem.W.mg_of X G a_struck_row,
      F_is_text := F_is_text,
      g_is_text := PySem.W.mg_of X G a_is_text,
      F_need_versions := F_need_versions,
      g_need_versions := PySem.W.mg_of X G a_need_versions,
      F_text_word := F_text_word,
      g_text_word := PySem.W.mg_of X G a_text_word,
      F_word_text := F_word_text,
      g_word_text := PySem.W.mg_of X G a_word_text,
      F_is_step := F_is_step,
      g_is_step := PySem.W.mg_of X G a_is_step,
      F_need_plan := F_need_plan,
      g_need_plan := PySem.W.mg_of X G a_need_plan,
      F_step_counts := F_step_counts,
      g_step_counts := PySem.W.mg_of X G a_step_counts,
      F_plan_counts := F_plan_counts,
      g_plan_counts := PySem.W.mg_of X G a_plan_counts,
      F_rows_word := F_rows_word,
      g_rows_word := PySem.W.mg_of X G a_rows_word,
      F_need_few_versions := F_need_few_versions,
      g_need_few_versions := PySem.W.mg_of X G a_need_few_versions,
      F_plan_texts := F_plan_texts,
      g_plan_texts := PySem.W.mg_of X G a_plan_texts,
      F_elder_keys := F_elder_keys,
      g_elder_keys := PySem.W.mg_of X G a_elder_keys,
      F_elder_fault := F_elder_fault,
      g_elder_fault := PySem.W.mg_of X G a_elder_fault,
      F_elder_plan := F_elder_plan,
      g_elder_plan := PySem.W.mg_of X G a_elder_plan,
      F__law_dealt := F__law_dealt,
      g__law_dealt := PySem.W.mg_of X G a__law_dealt,
      F__law_any := F__law_any,
      g__law_any := PySem.W.mg_of X G a__law_any,
      F__law_of := F__law_of,
      g__law_of := PySem.W.mg_of X G a__law_of,
      F__law_mixed := F__law_mixed,
      g__law_mixed := PySem.W.mg_of X G a__law_mixed,
      F__law_refused := F__law_refused,
      g__law_refused := PySem.W.mg_of X G a__law_refused,
      F__law_elders := F__law_elders,
      g__law_elders := PySem.W.mg_of X G a__law_elders,
      F__law_same := F__law_same,
      g__law_same := PySem.W.mg_of X G a__law_same,
      F__law_kin := F__law_kin,
      g__law_kin := PySem.W.mg_of X G a__law_kin,
      F__law_fault := F__law_fault,
      g__law_fault := PySem.W.mg_of X G a__law_fault,
      F__law_plan := F__law_plan,
      g__law_plan := PySem.W.mg_of X G a__law_plan,
      F__law_counts := F__law_counts,
      g__law_counts := PySem.W.mg_of X G a__law_counts,
      F__law_kept := F__law_kept,
      g__law_kept := PySem.W.mg_of X G a__law_kept,
      F__law_planned := F__law_planned,
      g__law_planned := PySem.W.mg_of X G a__law_planned,
      F__law_refusals := ⟨fdR, F__law_refusals.fn⟩,
      g__law_refusals := PySem.W.mg_of X G a__law_refusals,
      F_law := F_law,
      g_law := PySem.W.mg_of X G a_law,
      F_need_word := F_need_word,
      g_need_word := PySem.W.mg_of X G a_need_word,
      F_need_text := F_need_text,
      g_need_text := PySem.W.mg_of X G a_need_text,
      g_MergeError := PySem.W.mg_of X G a_MergeError,
      g_InvalidText := PySem.W.mg_of X G a_InvalidText,
      g_InvalidVersions := PySem.W.mg_of X G a_InvalidVersions,
      g_InvalidWord := PySem.W.mg_of X G a_InvalidWord,
      g_InvalidPlan := PySem.W.mg_of X G a_InvalidPlan,
      g_Refused := PySem.W.mg_of X G a_Refused,
      g_InvalidSize := PySem.W.mg_of X G a_InvalidSize,
      n_all := PySem.W.mg_none_of X G n_all,
      n_bool := PySem.W.mg_none_of X G n_bool,
      n_enumerate := PySem.W.mg_none_of X G n_enumerate,
      n_int := PySem.W.mg_none_of X G n_int,
      n_isinstance := PySem.W.mg_none_of X G n_isinstance,
      n_len := PySem.W.mg_none_of X G n_len,
      n_list := PySem.W.mg_none_of X G n_list,
      n_min := PySem.W.mg_none_of X G n_min,
      n_range := PySem.W.mg_none_of X G n_range,
      n_repr := PySem.W.mg_none_of X G n_repr,
      n_set := PySem.W.mg_none_of X G n_set,
      n_sorted := PySem.W.mg_none_of X G n_sorted,
      n_sum := PySem.W.mg_none_of X G n_sum,
      n_tuple := PySem.W.mg_none_of X G n_tuple,
      n_zip := PySem.W.mg_none_of X G n_zip,
      n_abs := PySem.W.mg_none_of X G n_abs,
      c_MANY_LETTERS := ⟨_, PySem.W.mg_of X G c_MANY_LETTERS⟩,
      c_MOST_COUNTED := ⟨_, PySem.W.mg_of X G c_MOST_COUNTED⟩,
      c_MOST_ELDERS := ⟨_, PySem.W.mg_of X G c_MOST_ELDERS⟩,
      c_MOST_STEPS := ⟨_, PySem.W.mg_of X G c_MOST_STEPS⟩,
      c_MOST_VERSIONS := ⟨_, PySem.W.mg_of X G c_MOST_VERSIONS⟩,
      e_InvalidSize := e_size (PySem.W.mg_none_of X G n_super),
      e_InvalidPlan := e_plan (PySem.W.mg_none_of X G n_super),
      x_size := xfB_ok x_size,
      x_plan := xfB_ok x_plan,
      w_size := w_size,
      w_plan := w_plan,
      m_ss := m_ss,
      m_ps := m_ps,
      m_pp := m_pp }
  obtain ⟨fd, F⟩ := F_law
  have F' := F
  obtain ⟨oc, od, kV, doc, pm, an, cdv, ct, osl, rfl, lk, hcd⟩ := F'.ex
  have one : ∀ {Z : Addr × Addr → Prop}, Z (c, Pt) → ∀ p ∈ [(c, Pt)], Z p := fun {Z} z p hp => by rw [List.mem_singleton.mp hp]; exact z
  refine ⟨PySem.W.fnOf "law" "law" (defArgs s_law) (defBody s_law) (defScope s_law) .none kV doc pm an cdv ct, [(c, Pt)], spLaw K Pt, one (Z := fun p => h.get? p.2 = some { cls := .none, data := .fields #[] }) hT, one (Z := fun p => K.lookup p.2 = none) nP, one (Z := fun p => PySem.W.CodeHd h p.1 p.2) (PySem.W.codeHd_of_K X hC), fun s u => .of_eq rfl, fun H a ns hl _ hH hS => ⟨a, ns, rfl, hS, hH (c, Pt) (List.mem_singleton.mpr rfl), fun _ => rfl⟩, fun base _ _ hB => ?_⟩
  exact okF_law T F__law_refusals (hB (c, Pt) (List.mem_singleton.mpr rfl)) F
end Dl

open PySem PySem.W PyProof.Rows
set_option maxRecDepth 100000 in
set_option maxHeartbeats 0 in
theorem PySem.Challenge.cw_cancelsback_k43_whole_elders_take_nothin_holds : PySem.Challenge.rw_cancelsback_k43_whole_elders_take_nothin.Holds := by
  w_on; o_law; k_head; (case hw => w_witness2)
  k_fill
  refine Dl.walk_ofG (l := PySem.Challenge.rw_cancelsback_k43_whole_elders_take_nothin) (n := 63) (k := 11) (x := "_law_script") (CX := fun _ => L2.CX0) rfl (by decide) rfl ⟨rfl, by decide, by decide⟩ (fun w h Y => PySem.W.km_in_of Y) ?F (fun _ _ _ _ _ z => z)
  case F =>
    intro w mg fa h Y KX G hmg
    have hT := PySem.W.km_tabs_of Y _ List.mem_cons_self
    refine' Dl.all_mk KX G hmg hT ?a_is_integer ?a_is_number ?a_is_below ?a_is_sequence ?a_is_letter ?a_is_signed ?a_need_word ?a_turned ?a_struck_row ?a_is_text ?a_need_text ?a_need_versions ?a_text_word ?a_word_text ?a_is_step ?a_need_plan ?a_step_counts ?a_plan_counts ?a_rows_word ?a_need_few_versions ?a_plan_texts ?a_elder_keys ?a_elder_fault ?a_elder_plan ?a__law_dealt ?a__law_any ?a__law_of ?a__law_mixed ?a__law_refused ?a__law_elders ?a__law_same ?a__law_kin ?a__law_fault ?a__law_plan ?a__law_counts ?a__law_kept ?a__law_planned ?a__law_refusals ?a_law ?a_MergeError ?a_InvalidText ?a_InvalidVersions ?a_InvalidWord ?a_InvalidPlan ?a_Refused ?a_InvalidSize ?F_is_integer ?F_is_number ?F_is_below ?F_is_sequence ?F_is_letter ?F_is_signed ?F_turned ?F_struck_row ?F_is_text ?F_need_versions ?F_text_word ?F_word_text ?F_is_step ?F_need_plan ?F_step_counts ?F_plan_counts ?F_rows_word ?F_need_few_versions ?F_plan_texts ?F_elder_keys ?F_elder_fault ?F_elder_plan ?F__law_dealt ?F__law_any ?F__law_of ?F__law_mixed ?F__law_refused ?F__law_elders ?F__law_same ?F__law_kin ?F__law_fault ?F__law_plan ?F__law_counts ?F__law_kept ?F__law_planned ?F_law ?F_need_word ?F_need_text ?F__law_refusals ?hC ?nP ?n_all ?n_bool ?n_enumerate ?n_int ?n_isinstance ?n_len ?n_list ?n_min ?n_range ?n_repr ?n_set ?n_sorted ?n_sum ?n_tuple ?n_zip ?n_abs ?n_super ?c_MANY_LETTERS ?c_MOST_COUNTED ?c_MOST_ELDERS ?c_MOST_STEPS ?c_MOST_VERSIONS ?e_size ?e_plan ?x_size ?x_plan ?w_size ?w_plan ?m_ss ?m_ps ?m_pp
    (case a_is_integer => k_is)
    (case a_is_number => k_is)
    (case a_is_below => k_is)
    (case a_is_sequence => k_is)
    (case a_is_letter => k_is)
    (case a_is_signed => k_is)
    (case a_need_word => k_is)
    (case a_turned => k_is)
    (case a_struck_row => k_is)
    (case a_is_text => k_is)
    (case a_need_text => k_is)
    (case a_need_versions => k_is)
    (case a_text_word => k_is)
    (case a_word_text => k_is)
    (case a_is_step => k_is)
    (case a_need_plan => k_is)
    (case a_step_counts => k_is)
    (case a_plan_counts => k_is)
    (case a_rows_word => k_is)
    (case a_need_few_versions => k_is)
    (case a_plan_texts => k_is)
    (case a_elder_keys => k_is)
    (case a_elder_fault => k_is)
    (case a_elder_plan => k_is)
    (case a__law_dealt => k_is)
    (case a__law_any => k_is)
    (case a__law_of => k_is)
    (case a__law_mixed => k_is)
    (case a__law_refused => k_is)
    (case a__law_elders => k_is)
    (case a__law_same => k_is)
    (case a__law_kin => k_is)
    (case a__law_fault => k_is)
    (case a__law_plan => k_is)
    (case a__law_counts => k_is)
    (case a__law_kept => k_is)
    (case a__law_planned => k_is)
    (case a__law_refusals => k_is)
    (case a_law => k_is)
    (case a_MergeError => k_is)
    (case a_InvalidText => k_is)
    (case a_InvalidVersions => k_is)
    (case a_InvalidWord => k_is)
    (case a_InvalidPlan => k_is)
    (case a_Refused => k_is)
    (case a_InvalidSize => k_is)
    (case F_is_integer => refine' ⟨_, L2.fun_mk (st := Dl.s_is_integer) ?l ?c ?k⟩; (case l => k_is); (case c => k_is); (case k => k_is))
    (case F_is_number => refine' ⟨_, L2.fun_mk (st := Dl.s_is_number) ?l ?c ?k⟩; (case l => k_is); (case c => k_is); (case k => k_is))
    (case F_is_below => refine' ⟨_, L2.fun_mk (st := Dl.s_is_below) ?l ?c ?k⟩; (case l => k_is); (case c => k_is); (case k => k_is))
    (case F_is_sequence => refine' ⟨_, L2.fun_mk (st := Dl.s_is_sequence) ?l ?c ?k⟩; (case l => k_is); (case c => k_is); (case k => k_is))
    (case F_is_letter => refine' ⟨_, L2.fun_mk (st := Dl.s_is_letter) ?l ?c ?k⟩; (case l => k_is); (case c => k_is); (case k => k_is))
    (case F_is_signed => refine' ⟨_, L2.fun_mk (st := Dl.s_is_signed) ?l ?c ?k⟩; (case l => k_is); (case c => k_is); (case k => k_is))
    (case F_turned => refine' ⟨_, L2.fun_mk (st := Dl.s_turned) ?l ?c ?k⟩; (case l => k_is); (case c => k_is); (case k => k_is))
    (case F_struck_row => refine' ⟨_, L2.fun_mk (st := Dl.s_struck_row) ?l ?c ?k⟩; (case l => k_is); (case c => k_is); (case k => k_is))
    (case F_is_text => refine' ⟨_, L2.fun_mk (st := Dl.s_is_text) ?l ?c ?k⟩; (case l => k_is); (case c => k_is); (case k => k_is))
    (case F_need_versions => refine' ⟨_, L2.fun_mk (st := Dl.s_need_versions) ?l ?c ?k⟩; (case l => k_is); (case c => k_is); (case k => k_is))
    (case F_text_word => refine' ⟨_, L2.fun_mk (st := Dl.s_text_word) ?l ?c ?k⟩; (case l => k_is); (case c => k_is); (case k => k_is))
    (case F_word_text => refine' ⟨_, L2.fun_mk (st := Dl.s_word_text) ?l ?c ?k⟩; (case l => k_is); (case c => k_is); (case k => k_is))
    (case F_is_step => refine' ⟨_, L2.fun_mk (st := Dl.s_is_step) ?l ?c ?k⟩; (case l => k_is); (case c => k_is); (case k => k_is))
    (case F_need_plan => refine' ⟨_, L2.fun_mk (st := Dl.s_need_plan) ?l ?c ?k⟩; (case l => k_is); (case c => k_is); (case k => k_is))
    (case F_step_counts => refine' ⟨_, L2.fun_mk (st := Dl.s_step_counts) ?l ?c ?k⟩; (case l => k_is); (case c => k_is); (case k => k_is))
    (case F_plan_counts => refine' ⟨_, L2.fun_mk (st := Dl.s_plan_counts) ?l ?c ?k⟩; (case l => k_is); (case c => k_is); (case k => k_is))
    (case F_rows_word => refine' ⟨_, L2.fun_mk (st := Dl.s_rows_word) ?l ?c ?k⟩; (case l => k_is); (case c => k_is); (case k => k_is))
    (case F_need_few_versions => refine' ⟨_, L2.fun_mk (st := Dl.s_need_few_versions) ?l ?c ?k⟩; (case l => k_is); (case c => k_is); (case k => k_is))
    (case F_plan_texts => refine' ⟨_, L2.fun_mk (st := Dl.s_plan_texts) ?l ?c ?k⟩; (case l => k_is); (case c => k_is); (case k => k_is))
    (case F_elder_keys => refine' ⟨_, L2.fun_mk (st := Dl.s_elder_keys) ?l ?c ?k⟩; (case l => k_is); (case c => k_is); (case k => k_is))
    (case F_elder_fault => refine' ⟨_, L2.fun_mk (st := Dl.s_elder_fault) ?l ?c ?k⟩; (case l => k_is); (case c => k_is); (case k => k_is))
    (case F_elder_plan => refine' ⟨_, L2.fun_mk (st := Dl.s_elder_plan) ?l ?c ?k⟩; (case l => k_is); (case c => k_is); (case k => k_is))
    (case F__law_dealt => refine' ⟨_, L2.fun_mk (st := Dl.s__law_dealt) ?l ?c ?k⟩; (case l => k_is); (case c => k_is); (case k => k_is))
    (case F__law_any => refine' ⟨_, L2.fun_mk (st := Dl.s__law_any) ?l ?c ?k⟩; (case l => k_is); (case c => k_is); (case k => k_is))
    (case F__law_of => refine' ⟨_, L2.fun_mk (st := Dl.s__law_of) ?l ?c ?k⟩; (case l => k_is); (case c => k_is); (case k => k_is))
    (case F__law_mixed => refine' ⟨_, L2.fun_mk (st := Dl.s__law_mixed) ?l ?c ?k⟩; (case l => k_is); (case c => k_is); (case k => k_is))
    (case F__law_refused => refine' ⟨_, L2.fun_mk (st := Dl.s__law_refused) ?l ?c ?k⟩; (case l => k_is); (case c => k_is); (case k => k_is))
    (case F__law_elders => refine' ⟨_, L2.fun_mk (st := Dl.s__law_elders) ?l ?c ?k⟩; (case l => k_is); (case c => k_is); (case k => k_is))
    (case F__law_same => refine' ⟨_, L2.fun_mk (st := Dl.s__law_same) ?l ?c ?k⟩; (case l => k_is); (case c => k_is); (case k => k_is))
    (case F__law_kin => refine' ⟨_, L2.fun_mk (st := Dl.s__law_kin) ?l ?c ?k⟩; (case l => k_is); (case c => k_is); (case k => k_is))
    (case F__law_fault => refine' ⟨_, L2.fun_mk (st := Dl.s__law_fault) ?l ?c ?k⟩; (case l => k_is); (case c => k_is); (case k => k_is))
    (case F__law_plan => refine' ⟨_, L2.fun_mk (st := Dl.s__law_plan) ?l ?c ?k⟩; (case l => k_is); (case c => k_is); (case k => k_is))
    (case F__law_counts => refine' ⟨_, L2.fun_mk (st := Dl.s__law_counts) ?l ?c ?k⟩; (case l => k_is); (case c => k_is); (case k => k_is))
    (case F__law_kept => refine' ⟨_, L2.fun_mk (st := Dl.s__law_kept) ?l ?c ?k⟩; (case l => k_is); (case c => k_is); (case k => k_is))
    (case F__law_planned => refine' ⟨_, L2.fun_mk (st := Dl.s__law_planned) ?l ?c ?k⟩; (case l => k_is); (case c => k_is); (case k => k_is))
    (case F_law => refine' ⟨_, L2.fun_mk (st := Dl.s_law) ?l ?c ?k⟩; (case l => k_is); (case c => k_is); (case k => k_is))
    (case F_need_word => refine' ⟨_, Dl.fund_mk (st := Dl.s_need_word) ?l ?c ?k ?d ?e ?v (fun z => nomatch z)⟩; (case l => k_is); (case c => k_is); (case k => k_is); (case d => k_is); (case e => rfl); (case v => exact .cons ⟨_, rfl⟩ .nil))
    (case F_need_text => refine' ⟨_, Dl.fund_mk (st := Dl.s_need_text) ?l ?c ?k ?d ?e ?v (fun z => nomatch z)⟩; (case l => k_is); (case c => k_is); (case k => k_is); (case d => k_is); (case e => rfl); (case v => exact .cons ⟨_, rfl⟩ .nil))
    (case F__law_refusals => refine' Dl.func_mk (st := Dl.s__law_refusals) ?l ?c ?k; (case l => k_is); (case c => k_is); (case k => k_is))
    (case hC => kernel_rfl)
    (case nP => kernel_rfl)
    (case n_all => k_is)
    (case n_bool => k_is)
    (case n_enumerate => k_is)
    (case n_int => k_is)
    (case n_isinstance => k_is)
    (case n_len => k_is)
    (case n_list => k_is)
    (case n_min => k_is)
    (case n_range => k_is)
    (case n_repr => k_is)
    (case n_set => k_is)
    (case n_sorted => k_is)
    (case n_sum => k_is)
    (case n_tuple => k_is)
    (case n_zip => k_is)
    (case n_abs => k_is)
    (case n_super => k_is)
    (case c_MANY_LETTERS => k_is)
    (case c_MOST_COUNTED => k_is)
    (case c_MOST_ELDERS => k_is)
    (case c_MOST_STEPS => k_is)
    (case c_MOST_VERSIONS => k_is)
    (case e_size =>
      intro hsup
      refine' Dl.errC_mk ?h1 ?h2 ?i1 ?i2 ?i3 ?i4 ?i5 ?i6 ?i7 ?i8 ?i9 ?i10 ?i11 ?i12 ?i13 ?i14 ?i15 ?i16 ?i17 ?i18 ?i19 ?sa ?exC ?exE ?subC ?tyC ?kC ?no ?sup ?opq hsup ?top (by decide) (by decide) (by decide)
      (case h1 => k_is); (case h2 => decide +kernel); (case i1 => k_is); (case i2 => k_is); (case i3 => k_is); (case i4 => k_is)
      (case i5 => rfl); (case i6 => rfl); (case i7 => rfl); (case i8 => rfl); (case i9 => decide +kernel); (case i10 => rfl); (case i11 => rfl); (case i12 => rfl); (case i13 => rfl)
      (case i14 => k_is); (case i15 => rfl); (case i16 => kernel_rfl); (case i17 => k_is)
      (case i18 => exact fun s us _ hl => match us, hl with | [_, _], _ => .of_eq rfl)
      (case i19 => exact fun L => ⟨⟨⟨_, rfl⟩, rfl, rfl, rfl, rfl⟩, rfl⟩)
      (case sa => k_is); (case exC => k_is); (case exE => k_is); (case subC => k_is); (case tyC => k_is); (case kC => k_is); (case no => k_is); (case sup => ks_is); (case opq => k_is); (case top => kernel_rfl))
    (case e_plan =>
      intro hsup
      refine' Dl.errC_mk ?h1 ?h2 ?i1 ?i2 ?i3 ?i4 ?i5 ?i6 ?i7 ?i8 ?i9 ?i10 ?i11 ?i12 ?i13 ?i14 ?i15 ?i16 ?i17 ?i18 ?i19 ?sa ?exC ?exE ?subC ?tyC ?kC ?no ?sup ?opq hsup ?top (by decide) (by decide) (by decide)
      (case h1 => k_is); (case h2 => decide +kernel); (case i1 => k_is); (case i2 => k_is); (case i3 => k_is); (case i4 => k_is)
      (case i5 => rfl); (case i6 => rfl); (case i7 => rfl); (case i8 => rfl); (case i9 => decide +kernel); (case i10 => rfl); (case i11 => rfl); (case i12 => rfl); (case i13 => rfl)
      (case i14 => k_is); (case i15 => rfl); (case i16 => kernel_rfl); (case i17 => k_is)
      (case i18 => intro s us X hl; obtain ⟨u1, u2, rfl⟩ : ∃ a b, us = [a, b] := (match us, hl with | [a, b], _ => ⟨a, b, rfl⟩); refine' Dl.bind_dfl X ?lT ?oT ⟨_, ?e1, ?e2⟩; (case e1 => rfl); (case lT => k_is); (case oT => rfl); (case e2 => rfl))
      (case i19 => exact fun L => ⟨⟨⟨_, rfl⟩, rfl, rfl, rfl, rfl⟩, rfl⟩)
      (case sa => k_is); (case exC => k_is); (case exE => k_is); (case subC => k_is); (case tyC => k_is); (case kC => k_is); (case no => k_is); (case sup => ks_is); (case opq => k_is); (case top => kernel_rfl))
    (case x_size => kernel_rfl)
    (case x_plan => kernel_rfl)
    (case w_size => k_is)
    (case w_plan => k_is)
    (case m_ss => kernel_rfl)
    (case m_ps => kernel_rfl)
    (case m_pp => kernel_rfl)

import PyProof.Rows.All
import Wide.All
import OpenK.AllK
import Wide.FinOn
import HandS.ForMost
import HandS.Walk
import HandS.Evl
import HandS.NoneIn
import HandS.Wide
import HandS.Flow
import KE.KeyNested
import KE.DataCmp
import HandS.TupAny
import HandS.TupMul
import HandS.Deep
import HandS.TupLe
import HandS.IsInst
import HandS.SortOrd
import HandS.Codes
import HandS.Zip
import HandS.Style
import KE.SortData
import PyProof.Rows.SeqMore
import KE.KDictKeyed
import KE.KDictCopyH
import KE.KDictSum
import PyProof.TupleOfSeq
import PyProof.Rows.Range3
import HandS.Defaults
import HandS.Head0
import HandS.Head1
import HandS.Head2
import HandS.HeadEnd
import HandS.HeadHook1
import HandS.HeadHook2
import PySem.Challenge.RW_flagmeans_k34_proportion_by_numbers
set_option Elab.async false
set_option linter.all false
set_option maxRecDepth 100000
/-! the plain layer: values as data, a mirror in a small monad, what a mirror says of the code -/
namespace FM
open PySem PySem.Spec PyProof.Rows L2 Evl

/-! ### answers -/
inductive R (α : Type) where
  | ok (a : α)
  | bad
/-- a mark that keeps the rest of a mirror as it is while its beginning is rewritten -/
class Rest {α : Type} (f : α) : Type where
  mk ::
instance restOf {α : Type} (f : α) : Rest f := ⟨⟩
namespace R
def bind {α β : Type} (x : R α) (f : α → R β) [Rest f] : R β := match x with
  | .ok a => f a
  | .bad => .bad
@[simp] theorem bind_ok {α β : Type} (a : α) (f : α → R β) : (R.ok a).bind f = f a := rfl
@[simp] theorem bind_bad {α β : Type} (f : α → R β) : (R.bad : R α).bind f = .bad := rfl
theorem of_bind {α β : Type} {x : R α} {f : α → R β} {b : β} (h : x.bind f = .ok b) : ∃ a, x = .ok a ∧ f a = .ok b := by
  cases x with
  | ok a => exact ⟨a, rfl, h⟩
  | bad => cases h
end R
def chk {α : Type} (c : Prop) [Decidable c] (x : R α) : R α := if c then x else .bad
theorem chk_ok {α : Type} {c : Prop} [Decidable c] {x : R α} {a : α} (h : chk c x = .ok a) : c ∧ x = .ok a := by
  unfold chk at h
  by_cases hc : c
  · rw [if_pos hc] at h
    exact ⟨hc, h⟩
  · rw [if_neg hc] at h
    cases h

/-- the program, its world, the written part -/
structure Tri where
  P : Program
  w : World
  K : PySem.W.Frag
abbrev _root_.L2.Cx.tri (X : Cx) : Tri := ⟨X.prog, X.w, X.K⟩

/-! ### slots -/
inductive LS where
  | own | rf | lent
  deriving DecidableEq
/-- what an object of one's own holds: a list, a dict (its pairs in order) -/
inductive Ct where
  | ls (xs : List PyData)
  | dc (kvs : List (PyData × PyData))
inductive Sv where
  | fz (d : PyData)
  | ob (k : LS) (c : Ct)
abbrev Sv.ls (k : LS) (xs : List PyData) : Sv := .ob k (.ls xs)
abbrev Ro := List (Option Sv)
def Sv.owned : Sv → Prop
  | .fz _ => False
  | .ob _ _ => True
def Sv.pinned : Sv → Prop
  | .fz _ => False
  | .ob .own _ => False
  | .ob _ _ => True

/-! ### data over heaps -/
mutual
theorem dp_mono {K : PySem.W.Frag} {H H' : Hp} (e : Ex H H') : ∀ {v : V} {d : PyData}, Dp K H v d → Dp K H' v d
  | _, _, .non => .non
  | _, _, .bl b => .bl b
  | _, _, .int i => .int i
  | _, _, .str x => .str x
  | _, _, .lst h a => .lst (ex_l e h) (dpa_mono e a)
  | _, _, .tup h a => .tup (ex_t e h) (dpa_mono e a)
theorem dpa_mono {K : PySem.W.Frag} {H H' : Hp} (e : Ex H H') : ∀ {vs : List V} {ds : List PyData}, DpAll K H vs ds → DpAll K H' vs ds
  | _, _, .nil => .nil
  | _, _, .cons h a => .cons (dp_mono e h) (dpa_mono e a)
end
theorem dpa_len {K : PySem.W.Frag} {H : Hp} : ∀ {vs : List V} {ds : List PyData}, DpAll K H vs ds → vs.length = ds.length
  | _, _, .nil => rfl
  | _, _, .cons _ a => by rw [List.length_cons, List.length_cons, dpa_len a]
theorem dpa_get {K : PySem.W.Frag} {H : Hp} : ∀ {vs : List V} {ds : List PyData} {i : Nat} {v : V}, DpAll K H vs ds → vs[i]? = some v → ∃ d, ds[i]? = some d ∧ Dp K H v d
  | _, _, _, _, .nil, h => by simp at h
  | _, _, 0, v, .cons h _, e => by
    simp at e
    subst e
    exact ⟨_, rfl, h⟩
  | _, _, i + 1, v, .cons _ a, e => by
    obtain ⟨d, h1, h2⟩ := dpa_get (i := i) (v := v) a (by simpa using e)
    exact ⟨d, by simpa using h1, h2⟩
theorem dpa_at {K : PySem.W.Frag} {H : Hp} : ∀ {vs : List V} {ds : List PyData} {i : Nat} {d : PyData}, DpAll K H vs ds → ds[i]? = some d → ∃ v, vs[i]? = some v ∧ Dp K H v d
  | _, _, _, _, .nil, h => by simp at h
  | _, _, 0, d, .cons h _, e => by
    simp at e
    subst e
    exact ⟨_, rfl, h⟩
  | _, _, i + 1, d, .cons _ a, e => by
    obtain ⟨v, h1, h2⟩ := dpa_at (i := i) (d := d) a (by simpa using e)
    exact ⟨v, by simpa using h1, h2⟩
theorem dpa_app {K : PySem.W.Frag} {H : Hp} : ∀ {vs ws : List V} {ds es : List PyData}, DpAll K H vs ds → DpAll K H ws es → DpAll K H (vs ++ ws) (ds ++ es)
  | _, _, _, _, .nil, b => b
  | _, _, _, _, .cons h a, b => .cons h (dpa_app a b)
theorem dpa_one {K : PySem.W.Frag} {H : Hp} {v : V} {d : PyData} (h : Dp K H v d) : DpAll K H [v] [d] := .cons h .nil
theorem dpa_take {K : PySem.W.Frag} {H : Hp} : ∀ {vs : List V} {ds : List PyData} (n : Nat), DpAll K H vs ds → DpAll K H (vs.take n) (ds.take n)
  | _, _, 0, _ => .nil
  | _, _, _ + 1, .nil => .nil
  | _, _, n + 1, .cons h a => .cons h (dpa_take n a)
theorem dpa_drop {K : PySem.W.Frag} {H : Hp} : ∀ {vs : List V} {ds : List PyData} (n : Nat), DpAll K H vs ds → DpAll K H (vs.drop n) (ds.drop n)
  | _, _, 0, a => a
  | _, _, _ + 1, .nil => .nil
  | _, _, n + 1, .cons _ a => dpa_drop n a
theorem dpa_set {K : PySem.W.Frag} {H : Hp} {v : V} {d : PyData} (h : Dp K H v d) : ∀ {vs : List V} {ds : List PyData} (i : Nat), DpAll K H vs ds → DpAll K H (vs.set i v) (ds.set i d)
  | _, _, _, .nil => .nil
  | _, _, 0, .cons _ a => .cons h a
  | _, _, i + 1, .cons g a => .cons g (dpa_set h i a)
theorem dpa_erase {K : PySem.W.Frag} {H : Hp} : ∀ {vs : List V} {ds : List PyData} (i : Nat), DpAll K H vs ds → DpAll K H (vs.eraseIdx i) (ds.eraseIdx i)
  | _, _, _, .nil => .nil
  | _, _, 0, .cons _ a => a
  | _, _, i + 1, .cons g a => .cons g (dpa_erase i a)
theorem dpa_droplast {K : PySem.W.Frag} {H : Hp} {vs : List V} {ds : List PyData} (a : DpAll K H vs ds) : DpAll K H vs.dropLast ds.dropLast := by
  rw [List.dropLast_eq_take, List.dropLast_eq_take, dpa_len a]
  exact dpa_take _ a
theorem dpa_rev {K : PySem.W.Frag} {H : Hp} : ∀ {vs : List V} {ds : List PyData}, DpAll K H vs ds → DpAll K H vs.reverse ds.reverse
  | _, _, .nil => .nil
  | _, _, .cons h a => by
    rw [List.reverse_cons, List.reverse_cons]
    exact dpa_app (dpa_rev a) (dpa_one h)

/-- the frame: what stays as it is, and the slots that stay -/
structure Fm where
  F : Hp
  L : Hp
  B : List (Nat × Addr)
/-! ### a dict that is one's own -/
mutual
/-- a datum as a key -/
def toKey : PyData → NestedKey
  | .none => .none
  | .bool b => .num (if b = true then 1 else 0)
  | .int i => .num i
  | .str x => .text x
  | .tuple xs => .tup (toKeys xs)
  | .list _ => .none
  | .dict _ => .none
def toKeys : List PyData → List NestedKey
  | [] => []
  | x :: xs => toKey x :: toKeys xs
end
abbrev En := NestedKey × Value × Value
def entN (w : World) (x : En) : DictEntry := ⟨x.1.hash w, x.2.1, x.2.2⟩
def HasD (w : World) (h : Heap) (d : Addr) (L : List En) : Prop := ∃ o ep, h.get? d = some o ∧ o.ExactDict ∧ o.data = .dict (L.map (entN w)).toArray ep
abbrev Ev := NestedKey × V × V
def EvR (p : Ev) (q : En) : Prop := p.1 = q.1 ∧ RelV p.2.1 q.2.1 ∧ RelV p.2.2 q.2.2
/-- a dict: its entries, each a key with the value that stands for it, and a value -/
def DX (T : Tri) (a : Addr) (es : List Ev) : HO := .ext fun h => (a == sysModules) = false ∧ es.length ≤ sizeLine ∧ ∃ L : List En, Paired EvR es L ∧ HasD T.w h a L
mutual
/-- it can be a key -/
def hashOk : PyData → Bool
  | .list _ => false
  | .dict _ => false
  | .tuple xs => hashAll xs
  | _ => true
def hashAll : List PyData → Bool
  | [] => true
  | x :: xs => hashOk x && hashAll xs
end
structure DcEs (K : Tri) (G : Hp) (es : List Ev) (kvs : List (PyData × PyData)) : Prop where
  ks : es.map (·.1) = kvs.map fun p => toKey p.1
  dk : DpAll K.K G (es.map (·.2.1)) (kvs.map (·.1))
  dv : DpAll K.K G (es.map (·.2.2)) (kvs.map (·.2))
  nd : (es.map (·.1)).Nodup
  ok : ∀ p ∈ kvs, hashOk p.1 = true
def DcOk (K : Tri) (G : Hp) (a : Addr) (o : HO) (kvs : List (PyData × PyData)) : Prop := ∃ es, o = DX K a es ∧ DcEs K G es kvs
def CtOk (K : Tri) (G : Hp) (a : Addr) (o : HO) : Ct → Prop
  | .ls xs => ∃ vs, o = .lst vs ∧ DpAll K.K G vs xs
  | .dc kvs => DcOk K G a o kvs
theorem ct_mono {K : Tri} {G G' : Hp} {a : Addr} {o : HO} {c : Ct} (e : Ex G G') (h : CtOk K G a o c) : CtOk K G' a o c := by
  cases c with
  | ls xs =>
    obtain ⟨vs, h1, h2⟩ := h
    exact ⟨vs, h1, dpa_mono e h2⟩
  | dc kvs =>
    obtain ⟨es, h1, h2⟩ := h
    exact ⟨es, h1, h2.ks, dpa_mono e h2.dk, dpa_mono e h2.dv, h2.nd, h2.ok⟩
def SlOk (K : Tri) (fm : Fm) (G H : Hp) (v : V) : Sv → Prop
  | .fz d => Dp K.K G v d
  | .ob k c => ∃ a o, v = .ref a ∧ G a = none ∧ fm.F a = none ∧ (if k = .lent then fm.L a = some o else fm.L a = none) ∧ H a = some o ∧ Mut (some o) ∧ CtOk K G a o c

structure Rp (K : Tri) (fm : Fm) (G H : Hp) (σ : L2.St) (ρ : Ro) : Prop where
  len : ρ.length = σ.length
  gh : Ex G H
  fh : Ex fm.F H
  fg : ∀ a, fm.F a ≠ none → G a = none
  lh : Ex fm.L H
  lg : ∀ a, fm.L a ≠ none → G a = none
  sl : ∀ (i : Nat) (sv : Sv), ρ[i]? = some (some sv) → ∃ v, σ[i]? = some (some v) ∧ SlOk K fm G H v sv
  ap : ∀ (i j : Nat) (a : Addr) (s1 s2 : Sv), ρ[i]? = some (some s1) → Sv.owned s1 → ρ[j]? = some (some s2) → Sv.owned s2 → σ[i]? = some (some (.ref a)) → σ[j]? = some (some (.ref a)) → i = j
  pin : ∀ p ∈ fm.B, σ[p.1]? = some (some (.ref p.2)) ∧ ∃ sv : Sv, ρ[p.1]? = some (some sv) ∧ Sv.pinned sv

/-! ### moves of the state -/
section
variable {K : Tri} {fm : Fm} {G G' H H' : Hp} {σ : L2.St} {ρ : Ro}
theorem sl_mono {v : V} {sv : Sv} (eg : Ex G G') (eh : Ex H H') (hg : ∀ a, (∃ o, H a = some o) → G a = none → G' a = none)
    (h : SlOk K fm G H v sv) : SlOk K fm G' H' v sv := by
  cases sv with
  | fz d => exact dp_mono eg h
  | ob k c =>
    obtain ⟨a, o, rfl, ga, fa, la, ha, mo, da⟩ := h
    exact ⟨a, o, rfl, hg a ⟨o, ha⟩ ga, fa, la, eh _ _ ha, mo, ct_mono eg da⟩
/-- the heap has grown -/
theorem Rp.grow (r : Rp K fm G H σ ρ) (e : Ex H H') : Rp K fm G H' σ ρ where
  len := r.len
  gh := r.gh.trans e
  fh := r.fh.trans e
  fg := r.fg
  lh := r.lh.trans e
  lg := r.lg
  sl := fun i sv h => by
    obtain ⟨v, h1, h2⟩ := r.sl i sv h
    exact ⟨v, h1, sl_mono (Ex.refl G) e (fun _ _ z => z) h2⟩
  ap := r.ap
  pin := r.pin
/-- a new object that nobody will change -/
theorem Rp.gnew (r : Rp K fm G H σ ρ) {p : Addr} {o : HO} (hp : H p = none) : Rp K fm (upd G p o) (upd H p o) σ ρ where
  len := r.len
  gh := fun a u h => by
    by_cases e : a = p
    · subst e
      rw [upd_same] at h
      rw [upd_same]
      exact h
    · rw [upd_ne e] at h
      rw [upd_ne e]
      exact r.gh a u h
  fh := r.fh.trans (Ex.new hp)
  fg := fun a h => by
    have e : a ≠ p := by
      rintro rfl
      cases q : fm.F a with
      | none => exact h q
      | some u =>
        rw [r.fh a u q] at hp
        cases hp
    rw [upd_ne e]
    exact r.fg a h
  lh := r.lh.trans (Ex.new hp)
  lg := fun a h => by
    have e : a ≠ p := by
      rintro rfl
      cases q : fm.L a with
      | none => exact h q
      | some u =>
        rw [r.lh a u q] at hp
        cases hp
    rw [upd_ne e]
    exact r.lg a h
  sl := fun i sv h => by
    obtain ⟨v, h1, h2⟩ := r.sl i sv h
    have gp : G p = none := fresh_back r.gh hp
    refine ⟨v, h1, sl_mono (Ex.new gp) (Ex.new hp) (fun a ⟨xs, ha⟩ z => ?_) h2⟩
    rw [upd_ne (ne_of_none ha hp)]
    exact z
  ap := r.ap
  pin := r.pin
/-- what stands in the heap, and nobody changes, is kept from now on -/
theorem Rp.gkeep (r : Rp K fm G H σ ρ) {p : Addr} {o : HO} (hp : H p = some o) (fp : fm.F p = none) (lp : fm.L p = none) (gp : G p = none) (ow : ∀ (i : Nat) (sv : Sv), ρ[i]? = some (some sv) → Sv.owned sv → σ[i]? ≠ some (some (.ref p))) : Rp K fm (upd G p o) H σ ρ where
  len := r.len
  gh := fun a u h => by
    by_cases e : a = p
    · subst e
      rw [upd_same] at h
      rw [hp]
      exact h
    · rw [upd_ne e] at h
      exact r.gh a u h
  fh := r.fh
  fg := fun a h => by
    have e : a ≠ p := by
      rintro rfl
      exact h fp
    rw [upd_ne e]
    exact r.fg a h
  lh := r.lh
  lg := fun a h => by
    have e : a ≠ p := by
      rintro rfl
      exact h lp
    rw [upd_ne e]
    exact r.lg a h
  sl := fun i sv h => by
    obtain ⟨v, h1, h2⟩ := r.sl i sv h
    refine ⟨v, h1, ?_⟩
    cases sv with
    | fz d => exact dp_mono (Ex.new gp) h2
    | ob k c =>
      obtain ⟨a, o', rfl, ga, fa, la, ha, mo, da⟩ := h2
      have e : a ≠ p := by
        rintro rfl
        exact ow i _ h trivial h1
      refine ⟨a, o', rfl, ?_, fa, la, ha, mo, ct_mono (Ex.new gp) da⟩
      rw [upd_ne e]
      exact ga
  ap := r.ap
  pin := r.pin
/-- a slot forgotten or set -/
theorem Rp.put (r : Rp K fm G H σ ρ) {i : Nat} {v : V} {o : Option Sv} (hi : i < ρ.length) (np : ∀ sv : Sv, ρ[i]? = some (some sv) → ¬ Sv.pinned sv)
    (ok : ∀ sv : Sv, o = some sv → SlOk K fm G H v sv ∧ (Sv.owned sv → ∀ (j : Nat) (s2 : Sv) (a : Addr), v = .ref a → j ≠ i → ρ[j]? = some (some s2) → Sv.owned s2 → σ[j]? ≠ some (some (.ref a)))) :
    Rp K fm G H (σ.set i (some v)) (ρ.set i o) where
  len := by rw [List.length_set, List.length_set, r.len]
  gh := r.gh
  fh := r.fh
  fg := r.fg
  lh := r.lh
  lg := r.lg
  sl := fun j sv h => by
    by_cases e : j = i
    · subst e
      rw [List.getElem?_set_self hi] at h
      cases h
      exact ⟨v, List.getElem?_set_self (by rw [← r.len]; exact hi), (ok sv rfl).1⟩
    · rw [List.getElem?_set_ne (Ne.symm e)] at h
      obtain ⟨w, h1, h2⟩ := r.sl j sv h
      exact ⟨w, by rw [List.getElem?_set_ne (Ne.symm e)]; exact h1, h2⟩
  ap := fun j k a s1 s2 h1 o1 h2 o2 h3 h4 => by
    by_cases ej : j = i
    · by_cases ek : k = i
      · rw [ej, ek]
      · subst ej
        rw [List.getElem?_set_self hi] at h1
        cases h1
        rw [List.getElem?_set_self (by rw [← r.len]; exact hi)] at h3
        have ev : v = .ref a := by injection h3 with h3; injection h3
        rw [List.getElem?_set_ne (Ne.symm ek)] at h2 h4
        exact absurd h4 ((ok s1 rfl).2 o1 k s2 a ev ek h2 o2)
    · by_cases ek : k = i
      · subst ek
        rw [List.getElem?_set_self hi] at h2
        cases h2
        rw [List.getElem?_set_self (by rw [← r.len]; exact hi)] at h4
        have ev : v = .ref a := by injection h4 with h4; injection h4
        rw [List.getElem?_set_ne (Ne.symm ej)] at h1 h3
        exact absurd h3 ((ok s2 rfl).2 o2 j s1 a ev ej h1 o1)
      · rw [List.getElem?_set_ne (Ne.symm ej)] at h1 h3
        rw [List.getElem?_set_ne (Ne.symm ek)] at h2 h4
        exact r.ap j k a s1 s2 h1 o1 h2 o2 h3 h4
  pin := fun p hp => by
    obtain ⟨h1, sv, h2, h3⟩ := r.pin p hp
    have e : p.1 ≠ i := by
      rintro rfl
      exact np sv h2 h3
    exact ⟨by rw [List.getElem?_set_ne (Ne.symm e)]; exact h1, sv, by rw [List.getElem?_set_ne (Ne.symm e)]; exact h2, h3⟩
/-- what a slot holds is told otherwise, the slot as it is -/
theorem Rp.tell (r : Rp K fm G H σ ρ) {i : Nat} {v : V} {o : Option Sv} (hi : i < ρ.length) (hv : σ[i]? = some (some v)) (np : ∀ sv : Sv, ρ[i]? = some (some sv) → ¬ Sv.pinned sv)
    (ok : ∀ sv : Sv, o = some sv → SlOk K fm G H v sv ∧ (Sv.owned sv → ∀ (j : Nat) (s2 : Sv) (a : Addr), v = .ref a → j ≠ i → ρ[j]? = some (some s2) → Sv.owned s2 → σ[j]? ≠ some (some (.ref a)))) :
    Rp K fm G H σ (ρ.set i o) := by
  have e : σ.set i (some v) = σ := by
    apply List.ext_getElem?
    intro j
    by_cases ej : j = i
    · subst ej
      rw [List.getElem?_set_self (by rw [← r.len]; exact hi), hv]
    · rw [List.getElem?_set_ne (Ne.symm ej)]
  have q := r.put hi np ok
  rw [e] at q
  exact q
/-- the list of a slot is changed -/
theorem Rp.mutC (r : Rp K fm G H σ ρ) {i : Nat} {k : LS} {c c' : Ct} {a : Addr} {o' : HO} (hs : ρ[i]? = some (some (.ob k c))) (hk : k ≠ .lent) (hv : σ[i]? = some (some (.ref a))) (mo : Mut (some o')) (hd : CtOk K G a o' c') :
    Rp K fm G (upd H a o') σ (ρ.set i (some (.ob k c'))) := by
  have hi : i < ρ.length := (List.getElem?_eq_some_iff.mp hs).1
  obtain ⟨v, hv', a', o, e1, ga, fa, la, ha, _, da⟩ := r.sl i _ hs
  have e2 : V.ref a = v := by
    rw [hv] at hv'
    injection hv' with hv'
    injection hv'
  subst e1
  have ea : a = a' := by injection e2
  subst ea
  rw [if_neg hk] at la
  refine ⟨by rw [List.length_set, r.len], Ex.mut r.gh ga, Ex.mut r.fh fa, r.fg, Ex.mut r.lh la, r.lg, fun j sv h => ?_, fun j l b s1 s2 h1 o1 h2 o2 h3 h4 => ?_, fun p hp => ?_⟩
  · by_cases ej : j = i
    · subst ej
      rw [List.getElem?_set_self hi] at h
      cases h
      exact ⟨_, hv, a, o', rfl, ga, fa, by rw [if_neg hk]; exact la, upd_same, mo, hd⟩
    · rw [List.getElem?_set_ne (Ne.symm ej)] at h
      obtain ⟨w, h1, h2⟩ := r.sl j sv h
      refine ⟨w, h1, ?_⟩
      cases sv with
      | fz d => exact h2
      | ob k2 c2 =>
        obtain ⟨b, us, rfl, gb, fb, lb, hb, mb, db⟩ := h2
        have eb : b ≠ a := by
          rintro rfl
          exact ej (r.ap j i b _ _ h trivial hs trivial h1 hv)
        exact ⟨b, us, rfl, gb, fb, lb, by rw [upd_ne eb]; exact hb, mb, db⟩
  · have f1 : ∃ t, ρ[j]? = some (some t) ∧ Sv.owned t := by
      by_cases ej : j = i
      · exact ⟨Sv.ob k c, by rw [ej]; exact hs, trivial⟩
      · rw [List.getElem?_set_ne (Ne.symm ej)] at h1
        exact ⟨s1, h1, o1⟩
    have f2 : ∃ t, ρ[l]? = some (some t) ∧ Sv.owned t := by
      by_cases ej : l = i
      · exact ⟨Sv.ob k c, by rw [ej]; exact hs, trivial⟩
      · rw [List.getElem?_set_ne (Ne.symm ej)] at h2
        exact ⟨s2, h2, o2⟩
    obtain ⟨t1, g1, p1⟩ := f1
    obtain ⟨t2, g2, p2⟩ := f2
    exact r.ap j l b t1 t2 g1 p1 g2 p2 h3 h4
  · obtain ⟨h1, sv, h2, h3⟩ := r.pin p hp
    refine ⟨h1, ?_⟩
    by_cases ep : p.1 = i
    · rw [ep] at h2 ⊢
      rw [hs] at h2
      cases h2
      refine ⟨_, List.getElem?_set_self hi, ?_⟩
      cases k with
      | own => exact h3
      | rf => trivial
      | lent => trivial
    · exact ⟨sv, by rw [List.getElem?_set_ne (Ne.symm ep)]; exact h2, h3⟩
theorem Rp.mut (r : Rp K fm G H σ ρ) {i : Nat} {k : LS} {xs ys : List PyData} {a : Addr} {ws : List V} (hs : ρ[i]? = some (some (.ls k xs))) (hk : k ≠ .lent) (hv : σ[i]? = some (some (.ref a))) (hd : DpAll K.K G ws ys) :
    Rp K fm G (upd H a (.lst ws)) σ (ρ.set i (some (.ls k ys))) := r.mutC hs hk hv trivial ⟨ws, rfl, hd⟩
end

/-! ### handles: a datum, or a slot that is read late -/
inductive Hd where
  | dat (d : PyData)
  | slot (i : Nat)
def RelH (K : Tri) (G : Hp) (σ : L2.St) (v : V) : Hd → Prop
  | .dat d => Dp K.K G v d
  | .slot i => σ[i]? = some (some v)
theorem relh_mono {K : Tri} {G G' : Hp} {σ : L2.St} {v : V} {h : Hd} (e : Ex G G') (r : RelH K G σ v h) : RelH K G' σ v h := by
  cases h with
  | dat d => exact dp_mono e r
  | slot i => exact r
@[simp] def Sv.dat : Sv → R PyData
  | .fz d => .ok d
  | .ob _ (.ls xs) => .ok (.list xs)
  | .ob _ (.dc _) => .bad
/-- what a handle shows now -/
@[simp] def rs (h : Hd) (ρ : Ro) : R PyData := match h with
  | .dat d => .ok d
  | .slot i => match ρ[i]? with
    | some (some sv) => sv.dat
    | _ => .bad
/-- a value shows a datum: it stays so, or it is a list that may change later -/
def Vw (K : Tri) (G H : Hp) (v : V) (d : PyData) : Prop := Dp K.K G v d ∨ ∃ a vs xs, v = .ref a ∧ d = .list xs ∧ H a = some (.lst vs) ∧ DpAll K.K G vs xs
theorem Vw.dp {K : Tri} {G H : Hp} {v : V} {d : PyData} (e : Ex G H) (h : Vw K G H v d) : Dp K.K H v d := by
  rcases h with h | ⟨a, vs, xs, rfl, rfl, ha, hd⟩
  · exact dp_mono e h
  · exact .lst (sq_of ha) (dpa_mono e hd)
/-- a sequence's items are kept, the sequence is read -/
theorem Vw.lst {K : Tri} {G H : Hp} {v : V} {xs : List PyData} (e : Ex G H) (h : Vw K G H v (.list xs)) : ∃ a vs, v = .ref a ∧ SqL K.K H a vs ∧ DpAll K.K G vs xs := by
  rcases h with h | ⟨a, vs, ys, rfl, e1, ha, hd⟩
  · cases h with
    | lst hs ha => exact ⟨_, _, rfl, ex_l e hs, ha⟩
  · cases e1
    exact ⟨a, vs, rfl, sq_of ha, hd⟩
theorem Vw.tup {K : Tri} {G H : Hp} {v : V} {xs : List PyData} (e : Ex G H) (h : Vw K G H v (.tuple xs)) : ∃ a vs, v = .ref a ∧ SqT K.K H a vs ∧ SqT K.K G a vs ∧ DpAll K.K G vs xs := by
  rcases h with h | ⟨a, vs, ys, rfl, e1, ha, hd⟩
  · cases h with
    | tup hs ha => exact ⟨_, _, rfl, ex_t e hs, hs, ha⟩
  · cases e1
theorem Vw.int {K : Tri} {G H : Hp} {v : V} {i : Int} (h : Vw K G H v (.int i)) : v = .int i := by
  rcases h with h | ⟨a, vs, ys, rfl, e1, ha, hd⟩
  · cases h; rfl
  · cases e1
theorem Vw.bool {K : Tri} {G H : Hp} {v : V} {i : Bool} (h : Vw K G H v (.bool i)) : v = .bl i := by
  rcases h with h | ⟨a, vs, ys, rfl, e1, ha, hd⟩
  · cases h; rfl
  · cases e1
theorem Vw.str {K : Tri} {G H : Hp} {v : V} {i : Str} (h : Vw K G H v (.str i)) : v = .str i := by
  rcases h with h | ⟨a, vs, ys, rfl, e1, ha, hd⟩
  · cases h; rfl
  · cases e1
theorem Vw.none {K : Tri} {G H : Hp} {v : V} (h : Vw K G H v .none) : v = .non := by
  rcases h with h | ⟨a, vs, ys, rfl, e1, ha, hd⟩
  · cases h; rfl
  · cases e1
theorem rs_vw {K : Tri} {fm : Fm} {G H : Hp} {σ : L2.St} {ρ : Ro} {v : V} {h : Hd} {d : PyData} (r : Rp K fm G H σ ρ) (hv : RelH K G σ v h) (e : rs h ρ = .ok d) : Vw K G H v d := by
  cases h with
  | dat d' =>
    cases e
    exact .inl hv
  | slot i =>
    dsimp only [rs] at e
    cases q : ρ[i]? with
    | none => rw [q] at e; cases e
    | some o =>
      rw [q] at e
      cases o with
      | none => cases e
      | some sv =>
        obtain ⟨w, h1, h2⟩ := r.sl i sv q
        have ew : v = w := by
          rw [show σ[i]? = some (some v) from hv] at h1
          injection h1 with h1
          injection h1
        subst ew
        cases sv with
        | fz d2 =>
          cases e
          exact .inl h2
        | ob k c =>
          cases c with
          | dc kvs => cases e
          | ls xs =>
          cases e
          obtain ⟨a, o, rfl, _, _, _, ha, _, vs, rfl, hd⟩ := h2
          exact .inr ⟨a, vs, xs, rfl, rfl, ha, hd⟩

/-! ### mirrors -/
abbrev M (α : Type) := Ro → R (α × Ro)
/-- the reading that a mirror gives an expression -/
def TM (K : Tri) (m : M Hd) : TE := fun σ H Q => ∃ fm G ρ a ρ', Rp K fm G H σ ρ ∧ m ρ = .ok (a, ρ') ∧ ∀ v G' H', Ex G G' → Rp K fm G' H' σ ρ' → RelH K G' σ v a → Q v H'
/-- a new list that is nobody's yet -/
def NewL (K : Tri) (fm : Fm) (G H : Hp) (σ : L2.St) (ρ : Ro) (v : V) (xs : List PyData) : Prop := ∃ p vs, v = .ref p ∧ fm.F p = none ∧ fm.L p = none ∧ G p = none ∧ H p = some (.lst vs) ∧ DpAll K.K G vs xs ∧ ∀ (i : Nat) (sv : Sv), ρ[i]? = some (some sv) → Sv.owned sv → σ[i]? ≠ some (some (V.ref p))
def TL (K : Tri) (m : M (List PyData)) : TE := fun σ H Q => ∃ fm G ρ a ρ', Rp K fm G H σ ρ ∧ m ρ = .ok (a, ρ') ∧ ∀ v G' H', Ex G G' → Rp K fm G' H' σ ρ' → NewL K fm G' H' σ ρ' v a → Q v H'
def TB (K : Tri) (m : M Bool) : TT := fun σ H Q => ∃ fm G ρ a ρ', Rp K fm G H σ ρ ∧ m ρ = .ok (a, ρ') ∧ ∀ G' H', Ex G G' → Rp K fm G' H' σ ρ' → Q a H'
inductive RelHs (K : Tri) (G : Hp) (σ : L2.St) : List V → List Hd → Prop
  | nil : RelHs K G σ [] []
  | cons {v : V} {vs : List V} {h : Hd} {hs : List Hd} : RelH K G σ v h → RelHs K G σ vs hs → RelHs K G σ (v :: vs) (h :: hs)
theorem relhs_mono {K : Tri} {G G' : Hp} {σ : L2.St} {vs : List V} {hs : List Hd} (e : Ex G G') (r : RelHs K G σ vs hs) : RelHs K G' σ vs hs := by
  induction r with
  | nil => exact .nil
  | cons h _ ih => exact .cons (relh_mono e h) ih
theorem relhs_len {K : Tri} {G : Hp} {σ : L2.St} {vs : List V} {hs : List Hd} (r : RelHs K G σ vs hs) : vs.length = hs.length := by
  induction r with
  | nil => rfl
  | cons h _ ih => rw [List.length_cons, List.length_cons, ih]
def TAs (K : Tri) (m : M (List Hd)) : TA := fun σ H Q => ∃ fm G ρ a ρ', Rp K fm G H σ ρ ∧ m ρ = .ok (a, ρ') ∧ ∀ vs G' H', Ex G G' → Rp K fm G' H' σ ρ' → RelHs K G' σ vs a → Q vs H'

/-- a handle is made a datum: an own list is given away -/
@[simp] def fz (h : Hd) (ρ : Ro) : R (PyData × Ro) := match h with
  | .dat d => .ok (d, ρ)
  | .slot i => match ρ[i]? with
    | some (some (.fz d)) => .ok (d, ρ)
    | some (some (.ob .own (.ls xs))) => .ok (.list xs, ρ.set i (some (.fz (.list xs))))
    | _ => .bad
def fzs : List Hd → Ro → R (List PyData × Ro)
  | [], ρ => .ok ([], ρ)
  | h :: hs, ρ => (fz h ρ).bind fun p => (fzs hs p.2).bind fun q => .ok (p.1 :: q.1, q.2)
theorem fz_ok {K : Tri} {fm : Fm} {G H : Hp} {σ : L2.St} {ρ ρ' : Ro} {v : V} {h : Hd} {d : PyData} (r : Rp K fm G H σ ρ) (hv : RelH K G σ v h) (e : fz h ρ = .ok (d, ρ')) : ∃ G', Ex G G' ∧ Rp K fm G' H σ ρ' ∧ Dp K.K G' v d := by
  cases h with
  | dat d' =>
    cases e
    exact ⟨G, Ex.refl G, r, hv⟩
  | slot i =>
    dsimp only [fz] at e
    have hv : σ[i]? = some (some v) := hv
    cases q : ρ[i]? with
    | none => rw [q] at e; cases e
    | some o =>
      rw [q] at e
      cases o with
      | none => cases e
      | some sv =>
        obtain ⟨w, h1, h2⟩ := r.sl i sv q
        have ew : v = w := by
          rw [hv] at h1
          injection h1 with h1
          injection h1
        subst ew
        cases sv with
        | fz d2 =>
          cases e
          exact ⟨G, Ex.refl G, r, h2⟩
        | ob k c =>
          cases k with
          | own =>
            cases c with
            | dc kvs => cases e
            | ls xs =>
            cases e
            obtain ⟨a, o, rfl, ga, fa, la, ha, _, vs, rfl, hd⟩ := h2
            have hi : i < ρ.length := (List.getElem?_eq_some_iff.mp q).1
            have r1 : Rp K fm G H σ (ρ.set i none) := r.tell (v := .ref a) (o := none) hi hv (fun sv e z => by rw [q] at e; cases e; exact z) (fun sv e => nomatch e)
            have la' : fm.L a = none := la
            have r2 := r1.gkeep ha fa la' ga (fun j sv hj oj z => by
              by_cases ej : j = i
              · subst ej
                rw [List.getElem?_set_self hi] at hj
                cases hj
              · rw [List.getElem?_set_ne (Ne.symm ej)] at hj
                exact ej (r.ap j i a _ _ hj oj q trivial z hv))
            have r3 := r2.tell (v := .ref a) (i := i) (o := some (.fz (.list xs))) (by rw [List.length_set]; exact hi) hv (fun sv e z => by
              rw [List.getElem?_set_self hi] at e
              cases e) (fun sv e => by
              cases e
              exact ⟨.lst (sq_of upd_same) (dpa_mono (Ex.new ga) hd), fun z => z.elim⟩)
            rw [List.set_set] at r3
            exact ⟨_, Ex.new ga, r3, .lst (sq_of upd_same) (dpa_mono (Ex.new ga) hd)⟩
          | rf => cases c <;> cases e
          | lent => cases c <;> cases e
theorem fzs_ok {K : Tri} {fm : Fm} {H : Hp} {σ : L2.St} : ∀ {hs : List Hd} {G : Hp} {ρ ρ' : Ro} {vs : List V} {ds : List PyData}, Rp K fm G H σ ρ → RelHs K G σ vs hs → fzs hs ρ = .ok (ds, ρ') → ∃ G', Ex G G' ∧ Rp K fm G' H σ ρ' ∧ DpAll K.K G' vs ds
  | [], G, ρ, ρ', _, _, r, .nil, e => by
    cases e
    exact ⟨G, Ex.refl G, r, .nil⟩
  | h :: hs, G, ρ, ρ', _, _, r, .cons h1 h2, e => by
    unfold fzs at e
    obtain ⟨⟨d, ρ1⟩, e1, e⟩ := R.of_bind e
    obtain ⟨⟨ds, ρ2⟩, e2, e⟩ := R.of_bind e
    cases e
    obtain ⟨G1, x1, r1, p1⟩ := fz_ok r h1 e1
    obtain ⟨G2, x2, r2, p2⟩ := fzs_ok r1 (relhs_mono x1 h2) e2
    exact ⟨G2, x1.trans x2, r2, .cons (dp_mono x2 p1) p2⟩
/-- a new list is given away at once -/
theorem newl_fz {K : Tri} {fm : Fm} {G H : Hp} {σ : L2.St} {ρ : Ro} {v : V} {xs : List PyData} (r : Rp K fm G H σ ρ) (n : NewL K fm G H σ ρ v xs) : ∃ G', Ex G G' ∧ Rp K fm G' H σ ρ ∧ Dp K.K G' v (.list xs) := by
  obtain ⟨p, vs, rfl, fp, lp, gp, hp, hd, ow⟩ := n
  exact ⟨_, Ex.new gp, r.gkeep hp fp lp gp ow, .lst (sq_of upd_same) (dpa_mono (Ex.new gp) hd)⟩
theorem newl_new {K : Tri} {fm : Fm} {G H : Hp} {σ : L2.St} {ρ : Ro} {p : Addr} {vs : List V} {xs : List PyData} (r : Rp K fm G H σ ρ) (hp : H p = none) (hd : DpAll K.K G vs xs) : NewL K fm G (upd H p (.lst vs)) σ ρ (.ref p) xs := by
  refine ⟨p, vs, rfl, fresh_back r.fh hp, fresh_back r.lh hp, fresh_back r.gh hp, upd_same, hd, fun i sv h o z => ?_⟩
  obtain ⟨v, h1, h2⟩ := r.sl i sv h
  rw [z] at h1
  have e : V.ref p = v := by
    injection h1 with h1
    injection h1
  subst e
  cases sv with
  | fz d => exact o
  | ob k c =>
    obtain ⟨a, us, e, _, _, _, ha, _⟩ := h2
    cases e
    rw [ha] at hp
    cases hp
theorem pe_imp {X : Cx} {e : Expr} {t t' : TE} (h : PE X e t) (k : ∀ σ H Q, t' σ H Q → t σ H Q) : PE X e t' := ⟨fun pins s σ H Q I q => h.run pins s σ H Q I (k σ H Q q)⟩
theorem pt_imp {X : Cx} {e : Expr} {t t' : TT} (h : PT X e t) (k : ∀ σ H Q, t' σ H Q → t σ H Q) : PT X e t' := ⟨fun pins s σ H Q I q => h.run pins s σ H Q I (k σ H Q q)⟩
theorem pa_imp {X : Cx} {e : List Expr} {t t' : TA} (h : PA X e t) (k : ∀ σ H Q, t' σ H Q → t σ H Q) : PA X e t' := ⟨fun pos pins s σ H Q I q => h.run pos pins s σ H Q I (k σ H Q q)⟩
theorem ps_imp {X : Cx} {e : Stmt} {t t' : TS} (h : PS X e t) (k : ∀ D σ H, t' D σ H → t D σ H) : PS X e t' := ⟨fun pins s σ H D I q => h.run pins s σ H D I (k D σ H q)⟩
theorem pss_imp {X : Cx} {e : List Stmt} {t t' : TS} (h : PSs X e t) (k : ∀ D σ H, t' D σ H → t D σ H) : PSs X e t' := ⟨fun pins s σ H D I q => h.run pins s σ H D I (k D σ H q)⟩
theorem pg_imp {X : Cx} {e : Expr} {t t' : TG} (h : PG X e t) (k : ∀ v σ H Q, t' v σ H Q → t v σ H Q) : PG X e t' := ⟨fun pins s σ H v u Q I r q => h.run pins s σ H v u Q I r (k v σ H Q q)⟩
theorem pgs_imp {X : Cx} {e : List Expr} {t t' : TGs} (h : PGs X e t) (k : ∀ v σ H Q, t' v σ H Q → t v σ H Q) : PGs X e t' := ⟨fun pins s σ H v u Q I r q => h.run pins s σ H v u Q I r (k v σ H Q q)⟩
end FM
/-! operators on data -/
namespace FM
open PySem PySem.Spec PyProof.Rows L2 Evl

/-- where one stands: nothing is handled, there is room -/
structure Cxo (X : Cx) : Prop where
  calm : X.calm = true
  hu : X.A.units + 190 < cLine

/-! ### small moves -/
@[simp] def mVar (i : Nat) (ρ : Ro) : R (Hd × Ro) := match ρ[i]? with
  | some (some _) => .ok (.slot i, ρ)
  | _ => .bad
@[simp] def mC (d : PyData) (ρ : Ro) : R (Hd × Ro) := .ok (.dat d, ρ)
@[simp] def mDat (m : M (List PyData)) (ρ : Ro) : R (Hd × Ro) := (m ρ).bind fun p => .ok (.dat (.list p.1), p.2)
@[simp] def mBin (f : PyData → PyData → R PyData) (m n : M Hd) (ρ : Ro) : R (Hd × Ro) := (m ρ).bind fun p => (n p.2).bind fun q => (rs p.1 q.2).bind fun a => (rs q.1 q.2).bind fun b => (f a b).bind fun d => .ok (.dat d, q.2)
@[simp] def mUn (f : PyData → R PyData) (m : M Hd) (ρ : Ro) : R (Hd × Ro) := (m ρ).bind fun p => (rs p.1 p.2).bind fun a => (f a).bind fun d => .ok (.dat d, p.2)

def OpD (X : Cx) (F : Value → Value → Sem Value) (f : PyData → PyData → R PyData) : Prop := ∃ r : R2, OpR X F r ∧
  ∀ fm G H σ ρ x y dx dy d Q, Rp X.tri fm G H σ ρ → Vw X.tri G H x dx → Vw X.tri G H y dy → f dx dy = .ok d → (∀ v G' H', Ex G G' → Rp X.tri fm G' H' σ ρ → Dp X.K G' v d → Q v H') → r x y H Q

section
variable {X : Cx} {a b c : Expr} {pos : Pos} {m n o : M Hd}
theorem slot_of {ρ : Ro} {i : Nat} {h : Hd} {ρ' : Ro} (e : mVar i ρ = .ok (h, ρ')) : h = .slot i ∧ ρ' = ρ ∧ ∃ sv, ρ[i]? = some (some sv) := by
  unfold mVar at e
  cases q : ρ[i]? with
  | none => rw [q] at e; cases e
  | some o =>
    rw [q] at e
    cases o with
    | none => cases e
    | some sv =>
      cases e
      exact ⟨rfl, rfl, sv, rfl⟩
theorem se_var (i : Nat) {x : Str} {pos : Pos} (hN : X.N[i]? = some x := by rfl) (hv : Vis X.env.scope x := by first | exact Or.inl rfl | exact Or.inr (Or.inl rfl) | exact Or.inr (Or.inr rfl)) (hd : (x == ("__debug__" : Str)) = false := by rfl)
    (hcd : (x == ("__classdict__" : Str)) = false := by rfl) : PE X (.Name x pos) (TM X.tri (mVar i)) :=
  pe_imp (pe_var hN hv hd hcd) fun σ H Q ⟨fm, G, ρ, h, ρ', r, e, k⟩ => by
    obtain ⟨rfl, rfl, sv, q⟩ := slot_of e
    obtain ⟨v, h1, _⟩ := r.sl i sv q
    exact ⟨v, h1, k v G H (Ex.refl G) r h1⟩
theorem se_c {v : V} {d : PyData} {e : Expr} (h : PE X e (tC v)) (hd : ∀ G, Dp X.K G v d) : PE X e (TM X.tri (mC d)) :=
  pe_imp h fun σ H Q ⟨fm, G, ρ, h, ρ', r, e, k⟩ => by
    cases e
    exact k v G H (Ex.refl G) r (hd G)
theorem se_int {i : Int} {j pos} : PE X (.Constant (.int i) j pos) (TM X.tri (mC (.int i))) := se_c pe_int fun _ => .int i
theorem se_bl {b : Bool} {j pos} : PE X (.Constant (.bool b) j pos) (TM X.tri (mC (.bool b))) := se_c pe_bl fun _ => .bl b
theorem se_non {j pos} : PE X (.Constant .none j pos) (TM X.tri (mC .none)) := se_c pe_non fun _ => .non
theorem se_str {x : Str} {j pos} : PE X (.Constant (.str x) j pos) (TM X.tri (mC (.str x))) := se_c pe_str fun _ => .str x
/-- a text of the module -/
theorem se_globS {x z : Str} {t : Tok} {pos : Pos} (hm : X.mg x = some (.str z t)) (hg : Gl X x := by rfl) (hd : (x == ("__debug__" : Str)) = false := by rfl) : PE X (.Name x pos) (TM X.tri (mC (.str z))) :=
  se_c (pe_glob (v := V.str z) hg hm ⟨t, rfl⟩ hd) fun _ => .str z
theorem se_globI {x : Str} {z : Int} {t : Tok} {pos : Pos} (hm : X.mg x = some (.int z t)) (hg : Gl X x := by rfl) (hd : (x == ("__debug__" : Str)) = false := by rfl) : PE X (.Name x pos) (TM X.tri (mC (.int z))) :=
  se_c (pe_glob (v := V.int z) hg hm ⟨t, rfl⟩ hd) fun _ => .int z
/-- a new list given away at once -/
theorem se_dat {e : Expr} {m : M (List PyData)} (h : PE X e (TL X.tri m)) : PE X e (TM X.tri (mDat m)) :=
  pe_imp h fun σ H Q ⟨fm, G, ρ, h, ρ', r, e, k⟩ => by
    obtain ⟨⟨xs, ρ1⟩, e1, e2⟩ := R.of_bind e
    cases e2
    refine ⟨fm, G, ρ, xs, ρ1, r, e1, fun v G' H' x r' n => ?_⟩
    obtain ⟨G2, x2, r2, d2⟩ := newl_fz r' n
    exact k v G2 H' (x.trans x2) r2 d2

theorem bin_to {r : R2} {f : PyData → PyData → R PyData} {F : Value → Value → Sem Value} (hr : ∀ fm G H σ ρ x y dx dy d Q, Rp X.tri fm G H σ ρ → Vw X.tri G H x dx → Vw X.tri G H y dy → f dx dy = .ok d → (∀ v G' H', Ex G G' → Rp X.tri fm G' H' σ ρ → Dp X.K G' v d → Q v H') → r x y H Q) :
    ∀ σ H Q, TM X.tri (mBin f m n) σ H Q → tOp r (TM X.tri m) (TM X.tri n) σ H Q := fun σ H Q ⟨fm, G, ρ, h, ρ', rp, e, k⟩ => by
  obtain ⟨⟨h1, ρ1⟩, e1, e⟩ := R.of_bind e
  obtain ⟨⟨h2, ρ2⟩, e2, e⟩ := R.of_bind e
  obtain ⟨d1, e3, e⟩ := R.of_bind e
  obtain ⟨d2, e4, e⟩ := R.of_bind e
  obtain ⟨d, e5, e⟩ := R.of_bind e
  cases e
  refine ⟨fm, G, ρ, h1, ρ1, rp, e1, fun x G1 H1 x1 rp1 hx => ⟨fm, G1, ρ1, h2, ρ2, rp1, e2, fun y G2 H2 x2 rp2 hy => ?_⟩⟩
  exact hr fm G2 H2 σ ρ2 x y d1 d2 d Q rp2 (rs_vw rp2 (relh_mono x2 hx) e3) (rs_vw rp2 hy e4) e5 fun v G' H' x' r' hd => k v G' H' ((x1.trans x2).trans x') r' hd
theorem se_op {op : Operator} {f : PyData → PyData → R PyData} (ho : OpD X (binaryOp op) f) (ha : PE X a (TM X.tri m)) (hb : PE X b (TM X.tri n)) : PE X (.BinOp a op b pos) (TM X.tri (mBin f m n)) := by
  obtain ⟨r, h1, h2⟩ := ho
  exact pe_imp (pe_op h1 ha hb) (bin_to (F := binaryOp op) h2)
theorem se_cmp {op : CmpOp} {f : PyData → PyData → R PyData} (ho : OpD X (compareOp op) f) (ha : PE X a (TM X.tri m)) (hb : PE X b (TM X.tri n)) (hm : behindInMarks op b = false := by first | exact nomark _ | with_unfolding_all rfl) : PE X (.Compare a [op] [b] pos) (TM X.tri (mBin f m n)) := by
  obtain ⟨r, h1, h2⟩ := ho
  exact pe_imp (pe_cmpR h1 ha hb hm) (bin_to (F := compareOp op) h2)
/-- a value as a test -/
@[simp] def mTst (m : M Hd) (ρ : Ro) : R (Bool × Ro) := (m ρ).bind fun p => (rs p.1 p.2).bind fun d => match d with
  | .bool b => .ok (b, p.2)
  | _ => .bad
theorem tst_to {t : TE} (h : ∀ σ H Q, TM X.tri m σ H Q → t σ H Q) : ∀ σ H Q, TB X.tri (mTst m) σ H Q → tTest t σ H Q := fun σ H Q ⟨fm, G, ρ, b, ρ', rp, e, k⟩ => by
  obtain ⟨⟨h1, ρ1⟩, e1, e⟩ := R.of_bind e
  obtain ⟨d1, e2, e⟩ := R.of_bind e
  refine h σ H _ ⟨fm, G, ρ, h1, ρ1, rp, e1, fun v G1 H1 x1 rp1 hv => ?_⟩
  have q := rs_vw rp1 hv e2
  cases d1 with
  | bool b' =>
    cases e
    exact ⟨b, q.bool, k G1 H1 x1 rp1⟩
  | _ => cases e
theorem st_cmp {op : CmpOp} {f : PyData → PyData → R PyData} (ho : OpD X (compareOp op) f) (ha : PE X a (TM X.tri m)) (hb : PE X b (TM X.tri n)) (hm : behindInMarks op b = false := by first | exact nomark _ | with_unfolding_all rfl) : PT X (.Compare a [op] [b] pos) (TB X.tri (mTst (mBin f m n))) := by
  obtain ⟨r, h1, h2⟩ := ho
  exact pt_imp (pt_cmpR h1 ha hb hm) (tst_to (bin_to (F := compareOp op) h2))
theorem st_val {e : Expr} (h : PE X e (TM X.tri m)) (he : ∀ whole, isTrue e X.env whole = (do let v ← whole; standAt e.pos; holding [v] (truthy v)) := by intro _; rfl) : PT X e (TB X.tri (mTst m)) :=
  pt_imp (pt_val h he) fun σ H Q q => tst_to (m := m) (t := TM X.tri m) (fun _ _ _ z => z) σ H Q q
/-- a op1 b op2 c -/
@[simp] def mChain (f g : PyData → PyData → R PyData) (m n o : M Hd) (ρ : Ro) : R (Hd × Ro) := (m ρ).bind fun p => (n p.2).bind fun q => (rs p.1 q.2).bind fun a => (rs q.1 q.2).bind fun b => (f a b).bind fun d => match d with
  | .bool true => (o q.2).bind fun s => (rs q.1 s.2).bind fun b' => (rs s.1 s.2).bind fun c => (g b' c).bind fun z => .ok (.dat z, s.2)
  | .bool false => .ok (.dat (.bool false), q.2)
  | _ => .bad
theorem chain_to {f g : PyData → PyData → R PyData} {r r' : R2} (hr : ∀ fm G H σ ρ x y dx dy d Q, Rp X.tri fm G H σ ρ → Vw X.tri G H x dx → Vw X.tri G H y dy → f dx dy = .ok d → (∀ v G' H', Ex G G' → Rp X.tri fm G' H' σ ρ → Dp X.K G' v d → Q v H') → r x y H Q)
    (hr' : ∀ fm G H σ ρ x y dx dy d Q, Rp X.tri fm G H σ ρ → Vw X.tri G H x dx → Vw X.tri G H y dy → g dx dy = .ok d → (∀ v G' H', Ex G G' → Rp X.tri fm G' H' σ ρ → Dp X.K G' v d → Q v H') → r' x y H Q) :
    ∀ σ H Q, TM X.tri (mChain f g m n o) σ H Q → tChain r r' (TM X.tri m) (TM X.tri n) (TM X.tri o) σ H Q := fun σ H Q ⟨fm, G, ρ, h, ρ', rp, e, k⟩ => by
  obtain ⟨⟨h1, ρ1⟩, e1, e⟩ := R.of_bind e
  obtain ⟨⟨h2, ρ2⟩, e2, e⟩ := R.of_bind e
  obtain ⟨d1, e3, e⟩ := R.of_bind e
  obtain ⟨d2, e4, e⟩ := R.of_bind e
  obtain ⟨d, e5, e⟩ := R.of_bind e
  refine ⟨fm, G, ρ, h1, ρ1, rp, e1, fun x G1 H1 x1 rp1 hx => ⟨fm, G1, ρ1, h2, ρ2, rp1, e2, fun y G2 H2 x2 rp2 hy => ?_⟩⟩
  refine hr fm G2 H2 σ ρ2 x y d1 d2 d _ rp2 (rs_vw rp2 (relh_mono x2 hx) e3) (rs_vw rp2 hy e4) e5 fun v G3 H3 x3 rp3 hd => ?_
  cases d with
  | bool t =>
    cases hd
    refine ⟨t, rfl, ?_⟩
    cases t with
    | false =>
      cases e
      rw [if_neg Bool.false_ne_true]
      exact k _ G3 H3 ((x1.trans x2).trans x3) rp3 (.bl false)
    | true =>
      obtain ⟨⟨h3, ρ3⟩, e6, e⟩ := R.of_bind e
      obtain ⟨d3, e7, e⟩ := R.of_bind e
      obtain ⟨d4, e8, e⟩ := R.of_bind e
      obtain ⟨d5, e9, e⟩ := R.of_bind e
      cases e
      rw [if_pos rfl]
      refine ⟨fm, G3, ρ2, h3, ρ3, rp3, e6, fun w G4 H4 x4 rp4 hw => ?_⟩
      exact hr' fm G4 H4 σ ρ3 y w d3 d4 d5 Q rp4 (rs_vw rp4 (relh_mono (x3.trans x4) hy) e7) (rs_vw rp4 hw e8) e9 fun v G' H' x' r' hd' => k v G' H' ((((x1.trans x2).trans x3).trans x4).trans x') r' hd'
  | _ => cases e
theorem se_chain {op op' : CmpOp} {f g : PyData → PyData → R PyData} (ho : OpD X (compareOp op) f) (ho' : OpD X (compareOp op') g) (ha : PE X a (TM X.tri m)) (hb : PE X b (TM X.tri n)) (hc : PE X c (TM X.tri o)) (hm : lastMarks [op, op'] [b, c] = false := by with_unfolding_all rfl) :
    PE X (.Compare a [op, op'] [b, c] pos) (TM X.tri (mChain f g m n o)) := by
  obtain ⟨r, h1, h2⟩ := ho
  obtain ⟨r', h1', h2'⟩ := ho'
  exact pe_imp (pe_chain h1 h1' ha hb hc hm) (chain_to h2 h2')
theorem st_chain {op op' : CmpOp} {f g : PyData → PyData → R PyData} (ho : OpD X (compareOp op) f) (ho' : OpD X (compareOp op') g) (ha : PE X a (TM X.tri m)) (hb : PE X b (TM X.tri n)) (hc : PE X c (TM X.tri o)) (hm : lastMarks [op, op'] [b, c] = false := by with_unfolding_all rfl) :
    PT X (.Compare a [op, op'] [b, c] pos) (TB X.tri (mTst (mChain f g m n o))) := by
  obtain ⟨r, h1, h2⟩ := ho
  obtain ⟨r', h1', h2'⟩ := ho'
  exact pt_imp (pt_chain h1 h1' ha hb hc hm) (tst_to (chain_to h2 h2'))

/-! ### and, or, not -/
@[simp] def mAndT (m n : M Bool) (ρ : Ro) : R (Bool × Ro) := (m ρ).bind fun p => if p.1 = true then n p.2 else .ok (false, p.2)
@[simp] def mOrT (m n : M Bool) (ρ : Ro) : R (Bool × Ro) := (m ρ).bind fun p => if p.1 = true then .ok (true, p.2) else n p.2
@[simp] def mNotT (m : M Bool) (ρ : Ro) : R (Bool × Ro) := (m ρ).bind fun p => .ok (!p.1, p.2)
variable {s t : M Bool} {rest : List Expr}
theorem tb_bind {K : Tri} {tt : TT} (h : tt = TB K s) {fm : Fm} {G H : Hp} {σ : L2.St} {ρ ρ' : Ro} {b : Bool} {Q : Bool → Hp → Prop} (rp : Rp K fm G H σ ρ) (e : s ρ = .ok (b, ρ')) (k : ∀ G' H', Ex G G' → Rp K fm G' H' σ ρ' → Q b H') : tt σ H Q := by
  rw [h]
  exact ⟨fm, G, ρ, b, ρ', rp, e, k⟩
theorem and_to : ∀ σ H Q, TB X.tri (mAndT s t) σ H Q → tAnd (TB X.tri s) (TB X.tri t) σ H Q := fun σ H Q ⟨fm, G, ρ, b, ρ', rp, e, k⟩ => by
  obtain ⟨⟨b1, ρ1⟩, e1, e⟩ := R.of_bind e
  refine tb_bind rfl rp e1 fun G1 H1 x1 rp1 => ?_
  cases b1 with
  | true =>
    rw [if_pos rfl] at e ⊢
    exact ⟨fm, G1, ρ1, b, ρ', rp1, e, fun G2 H2 x2 rp2 => k G2 H2 (x1.trans x2) rp2⟩
  | false =>
    rw [if_neg Bool.false_ne_true] at e ⊢
    cases e
    exact k G1 H1 x1 rp1
theorem or_to : ∀ σ H Q, TB X.tri (mOrT s t) σ H Q → tOr (TB X.tri s) (TB X.tri t) σ H Q := fun σ H Q ⟨fm, G, ρ, b, ρ', rp, e, k⟩ => by
  obtain ⟨⟨b1, ρ1⟩, e1, e⟩ := R.of_bind e
  refine tb_bind rfl rp e1 fun G1 H1 x1 rp1 => ?_
  cases b1 with
  | true =>
    rw [if_pos rfl] at e ⊢
    cases e
    exact k G1 H1 x1 rp1
  | false =>
    rw [if_neg Bool.false_ne_true] at e ⊢
    exact ⟨fm, G1, ρ1, b, ρ', rp1, e, fun G2 H2 x2 rp2 => k G2 H2 (x1.trans x2) rp2⟩
theorem pw_imp {e : Expr} {t t' : TT} (h : PW X e t) (k : ∀ σ H Q, t' σ H Q → t σ H Q) : PW X e t' := ⟨fun whole pins s σ H Q I q => h.run whole pins s σ H Q I (k σ H Q q)⟩
theorem sw_and1 (ha : PT X a (TB X.tri s)) : PW X (.BoolOp .And [a] pos) (TB X.tri s) := pw_and1 ha
theorem sw_or1 (ha : PT X a (TB X.tri s)) : PW X (.BoolOp .Or [a] pos) (TB X.tri s) := pw_or1 ha
theorem sw_and (ha : PT X a (TB X.tri s)) (hb : PW X (.BoolOp .And (b :: rest) pos) (TB X.tri t)) : PW X (.BoolOp .And (a :: b :: rest) pos) (TB X.tri (mAndT s t)) := pw_imp (pw_and ha hb) and_to
theorem sw_or (ha : PT X a (TB X.tri s)) (hb : PW X (.BoolOp .Or (b :: rest) pos) (TB X.tri t)) : PW X (.BoolOp .Or (a :: b :: rest) pos) (TB X.tri (mOrT s t)) := pw_imp (pw_or ha hb) or_to
theorem st_bool (h : PW X a (TB X.tri s)) : PT X a (TB X.tri s) := h.pt
theorem st_not (ha : PT X a (TB X.tri s)) : PT X (.UnaryOp .Not a pos) (TB X.tri (mNotT s)) := pt_imp (pt_not ha) fun σ H Q ⟨fm, G, ρ, b, ρ', rp, e, k⟩ => by
  obtain ⟨⟨b1, ρ1⟩, e1, e⟩ := R.of_bind e
  cases e
  exact tb_bind rfl rp e1 k
/-- as values -/
@[simp] def mAndV (m n : M Hd) (ρ : Ro) : R (Hd × Ro) := (m ρ).bind fun p => (rs p.1 p.2).bind fun d => match d with
  | .bool true => n p.2
  | .bool false => .ok (.dat (.bool false), p.2)
  | _ => .bad
@[simp] def mOrV (m n : M Hd) (ρ : Ro) : R (Hd × Ro) := (m ρ).bind fun p => (rs p.1 p.2).bind fun d => match d with
  | .bool true => .ok (.dat (.bool true), p.2)
  | .bool false => n p.2
  | _ => .bad
@[simp] def mNotV (m : M Hd) (ρ : Ro) : R (Hd × Ro) := (m ρ).bind fun p => (rs p.1 p.2).bind fun d => match d with
  | .bool b => .ok (.dat (.bool (!b)), p.2)
  | _ => .bad
theorem se_one {op} (h : PE X a (TM X.tri m)) : PE X (.BoolOp op [a] pos) (TM X.tri m) := pe_one h
theorem se_and (ha : PE X a (TM X.tri m)) (hb : PE X (.BoolOp .And (b :: rest) pos) (TM X.tri n)) : PE X (.BoolOp .And (a :: b :: rest) pos) (TM X.tri (mAndV m n)) := pe_imp (pe_and ha hb) fun σ H Q ⟨fm, G, ρ, h, ρ', rp, e, k⟩ => by
  obtain ⟨⟨h1, ρ1⟩, e1, e⟩ := R.of_bind e
  obtain ⟨d1, e2, e⟩ := R.of_bind e
  refine ⟨fm, G, ρ, h1, ρ1, rp, e1, fun v G1 H1 x1 rp1 hv => ?_⟩
  have q := rs_vw rp1 hv e2
  cases d1 with
  | bool b' =>
    refine ⟨b', q.bool, ?_⟩
    cases b' with
    | true =>
      rw [if_pos rfl]
      exact ⟨fm, G1, ρ1, h, ρ', rp1, e, fun w G2 H2 x2 rp2 hw => k w G2 H2 (x1.trans x2) rp2 hw⟩
    | false =>
      cases e
      rw [if_neg Bool.false_ne_true]
      exact k _ G1 H1 x1 rp1 (.bl false)
  | _ => cases e
theorem se_or (ha : PE X a (TM X.tri m)) (hb : PE X (.BoolOp .Or (b :: rest) pos) (TM X.tri n)) : PE X (.BoolOp .Or (a :: b :: rest) pos) (TM X.tri (mOrV m n)) := pe_imp (pe_or ha hb) fun σ H Q ⟨fm, G, ρ, h, ρ', rp, e, k⟩ => by
  obtain ⟨⟨h1, ρ1⟩, e1, e⟩ := R.of_bind e
  obtain ⟨d1, e2, e⟩ := R.of_bind e
  refine ⟨fm, G, ρ, h1, ρ1, rp, e1, fun v G1 H1 x1 rp1 hv => ?_⟩
  have q := rs_vw rp1 hv e2
  cases d1 with
  | bool b' =>
    refine ⟨b', q.bool, ?_⟩
    cases b' with
    | true =>
      cases e
      rw [if_pos rfl]
      exact k _ G1 H1 x1 rp1 (.bl true)
    | false =>
      rw [if_neg Bool.false_ne_true]
      exact ⟨fm, G1, ρ1, h, ρ', rp1, e, fun w G2 H2 x2 rp2 hw => k w G2 H2 (x1.trans x2) rp2 hw⟩
  | _ => cases e
theorem se_not (ha : PE X a (TM X.tri m)) : PE X (.UnaryOp .Not a pos) (TM X.tri (mNotV m)) := pe_imp (pe_not ha) fun σ H Q ⟨fm, G, ρ, h, ρ', rp, e, k⟩ => by
  obtain ⟨⟨h1, ρ1⟩, e1, e⟩ := R.of_bind e
  obtain ⟨d1, e2, e⟩ := R.of_bind e
  refine ⟨fm, G, ρ, h1, ρ1, rp, e1, fun v G1 H1 x1 rp1 hv => ?_⟩
  have q := rs_vw rp1 hv e2
  cases d1 with
  | bool b' =>
    cases e
    exact ⟨b', q.bool, k _ G1 H1 x1 rp1 (.bl (!b'))⟩
  | _ => cases e
/-- a if t else b -/
@[simp] def mIf (t : M Bool) (m n : M Hd) (ρ : Ro) : R (Hd × Ro) := (t ρ).bind fun p => if p.1 = true then m p.2 else n p.2
theorem se_if {c : Expr} (hc : PT X c (TB X.tri s)) (ha : PE X a (TM X.tri m)) (hb : PE X b (TM X.tri n)) : PE X (.IfExp c a b pos) (TM X.tri (mIf s m n)) := pe_imp (pe_ifExp hc ha hb) fun σ H Q ⟨fm, G, ρ, h, ρ', rp, e, k⟩ => by
  obtain ⟨⟨b1, ρ1⟩, e1, e⟩ := R.of_bind e
  refine tb_bind rfl rp e1 fun G1 H1 x1 rp1 => ?_
  cases b1 with
  | true =>
    rw [if_pos rfl] at e ⊢
    exact ⟨fm, G1, ρ1, h, ρ', rp1, e, fun w G2 H2 x2 rp2 hw => k w G2 H2 (x1.trans x2) rp2 hw⟩
  | false =>
    rw [if_neg Bool.false_ne_true] at e ⊢
    exact ⟨fm, G1, ρ1, h, ρ', rp1, e, fun w G2 H2 x2 rp2 hw => k w G2 H2 (x1.trans x2) rp2 hw⟩
end

/-! ### arithmetic on data -/
def big : Nat := 1000000
theorem big_le {n : Nat} (h : n ≤ big) : n ≤ sizeLine := Nat.le_trans h (by decide)
theorem big_lt {n : Nat} (h : n < big) : n < sizeLine := Nat.lt_of_lt_of_le h (by decide)
/-- below a bound on both sides; told so that it stops at once where i isn't known -/
def within (b : Nat) : Int → Bool
  | .ofNat n => Nat.blt n b
  | .negSucc n => Nat.blt n b
theorem within_iff {b : Nat} {i : Int} : within b i = true ↔ -(b : Int) ≤ i ∧ i < b := by
  cases i with
  | ofNat n =>
    show Nat.blt n b = true ↔ _
    rw [Nat.blt_eq]
    constructor
    · intro h
      exact ⟨by simp only [Int.ofNat_eq_natCast]; omega, by simp only [Int.ofNat_eq_natCast]; omega⟩
    · intro h
      simp only [Int.ofNat_eq_natCast] at h
      omega
  | negSucc n =>
    show Nat.blt n b = true ↔ _
    rw [Nat.blt_eq]
    constructor
    · intro h
      exact ⟨by omega, by omega⟩
    · intro h
      omega
def lim64 (i : Int) : Bool := within 18446744073709551615 i
theorem lim64_iff {i : Int} : lim64 i = true ↔ -(2 ^ 64) < i ∧ i < 2 ^ 64 - 1 := by
  unfold lim64
  rw [within_iff]
  omega
theorem lim64_ok {i : Int} (h : lim64 i = true) : -(2 ^ 64) < i ∧ i < 2 ^ 64 := by
  have := lim64_iff.mp h
  omega
def okMul (i j : Int) : Bool := lim64 i || lim64 j || decide (i.natAbs.log2 + j.natAbs.log2 < 1000000)
def okDiv (j : Int) : Bool := decide (j ≠ 0 ∧ j.natAbs.log2 < 9000)
def dAdd : PyData → PyData → R PyData
  | .int i, .int j => .ok (.int (i + j))
  | .str x, .str y => chk (x.length + y.length ≤ big) (.ok (.str (x ++ y)))
  | .tuple xs, .tuple ys => chk (xs.length + ys.length ≤ big) (.ok (.tuple (xs ++ ys)))
  | _, _ => .bad
def dSub : PyData → PyData → R PyData
  | .int i, .int j => .ok (.int (i - j))
  | _, _ => .bad
def dMul : PyData → PyData → R PyData
  | .int i, .int j => chk (okMul i j = true) (.ok (.int (i * j)))
  | _, _ => .bad
def dDiv : PyData → PyData → R PyData
  | .int i, .int j => chk (okDiv j = true) (.ok (.int (i.fdiv j)))
  | _, _ => .bad
def dMod : PyData → PyData → R PyData
  | .int i, .int j => chk (j ≠ 0) (.ok (.int (i.fmod j)))
  | _, _ => .bad
def dPow : PyData → PyData → R PyData
  | .int i, .int j => chk (0 ≤ j ∧ j ≤ 1000000 ∧ i.natAbs < 2 ^ 64) (.ok (.int (i ^ j.toNat)))
  | _, _ => .bad
section
variable {X : Cx}
theorem od_int {F : Value → Value → Sem Value} {f : PyData → PyData → R PyData} {C : Int → Int → Prop} {g : Int → Int → Int} (ho : OpR X F (rI C fun i j => .int (g i j)))
    (hf : ∀ x y d, f x y = .ok d → ∃ i j, x = .int i ∧ y = .int j ∧ C i j ∧ d = .int (g i j)) : OpD X F f := by
  refine ⟨_, ho, fun fm G H σ ρ x y dx dy d Q rp vx vy e k => ?_⟩
  obtain ⟨i, j, rfl, rfl, hc, rfl⟩ := hf dx dy d e
  exact ⟨i, j, vx.int, vy.int, hc, k _ G H (Ex.refl G) rp (.int _)⟩
theorem opd_or {F : Value → Value → Sem Value} {f g h : PyData → PyData → R PyData} (hf : OpD X F f) (hg : OpD X F g) (hh : ∀ x y d, h x y = .ok d → f x y = .ok d ∨ g x y = .ok d) : OpD X F h := by
  obtain ⟨r1, o1, k1⟩ := hf
  obtain ⟨r2, o2, k2⟩ := hg
  refine ⟨_, o1.or o2, fun fm G H σ ρ x y dx dy d Q rp vx vy e k => ?_⟩
  rcases hh dx dy d e with e | e
  · exact .inl (k1 fm G H σ ρ x y dx dy d Q rp vx vy e k)
  · exact .inr (k2 fm G H σ ρ x y dx dy d Q rp vx vy e k)
theorem rI_of_rI0 {F : Value → Value → Sem Value} {g : Int → Int → V} (h : OpR X F (rI0 g)) : OpR X F (rI (fun _ _ => True) g) := by
  intro pins s σ H x y v u Q I rx ry ⟨i, j, e1, e2, _, q⟩
  exact h pins s σ H x y v u Q I rx ry ⟨i, j, e1, e2, q⟩
theorem od_sub : OpD X (binaryOp .Sub) dSub := od_int (C := fun _ _ => True) (rI_of_rI0 op_sub) fun x y d e => by
  unfold dSub at e
  split at e
  · cases e
    exact ⟨_, _, rfl, rfl, trivial, rfl⟩
  · cases e
theorem okMul_ok {i j : Int} (h : okMul i j = true) : IntMulOk i j := by
  unfold okMul at h
  rw [Bool.or_eq_true, Bool.or_eq_true] at h
  rcases h with (h | h) | h
  · exact CMul.ok (.inl (lim64_ok h))
  · exact CMul.ok (.inr (lim64_ok h))
  · exact CMulW.ok (show i.natAbs.log2 + j.natAbs.log2 < 1000000 from of_decide_eq_true h)
theorem op_mulM : OpR X (binaryOp .Mult) (rI (fun i j => okMul i j = true) fun i j => .int (i * j)) := opI fun _ _ _ _ _ _ _ hc q => mul_int q (okMul_ok hc)
theorem op_divM : OpR X (binaryOp .FloorDiv) (rI (fun _ j => okDiv j = true) fun i j => .int (i.fdiv j)) := opI fun _ j _ _ _ _ _ hc q => by
  have h : j ≠ 0 ∧ j.natAbs.log2 < 9000 := of_decide_eq_true hc
  exact floordiv_int h.1 q (.inl (PyProof.noPylong_of_log2 h.2))
theorem od_mulI : OpD X (binaryOp .Mult) dMul := od_int op_mulM fun x y d e => by
  unfold dMul at e
  split at e
  · obtain ⟨hc, e⟩ := chk_ok e
    cases e
    exact ⟨_, _, rfl, rfl, hc, rfl⟩
  · cases e
theorem od_div : OpD X (binaryOp .FloorDiv) dDiv := od_int op_divM fun x y d e => by
  unfold dDiv at e
  split at e
  · obtain ⟨hc, e⟩ := chk_ok e
    cases e
    exact ⟨_, _, rfl, rfl, hc, rfl⟩
  · cases e
theorem od_mod : OpD X (binaryOp .Mod) dMod := od_int op_modN fun x y d e => by
  unfold dMod at e
  split at e
  · obtain ⟨hc, e⟩ := chk_ok e
    cases e
    exact ⟨_, _, rfl, rfl, hc, rfl⟩
  · cases e
theorem od_pow : OpD X (binaryOp .Pow) dPow := od_int op_pow fun x y d e => by
  unfold dPow at e
  split at e
  · obtain ⟨hc, e⟩ := chk_ok e
    cases e
    exact ⟨_, _, rfl, rfl, hc, rfl⟩
  · cases e
def dAddI : PyData → PyData → R PyData
  | .int i, .int j => .ok (.int (i + j))
  | _, _ => .bad
def dAddS : PyData → PyData → R PyData
  | .str x, .str y => chk (x.length + y.length ≤ big) (.ok (.str (x ++ y)))
  | _, _ => .bad
def dAddT : PyData → PyData → R PyData
  | .tuple xs, .tuple ys => chk (xs.length + ys.length ≤ big) (.ok (.tuple (xs ++ ys)))
  | _, _ => .bad
theorem od_addI : OpD X (binaryOp .Add) dAddI := od_int (C := fun _ _ => True) (rI_of_rI0 op_add) fun x y d e => by
  unfold dAddI at e
  split at e
  · cases e
    exact ⟨_, _, rfl, rfl, trivial, rfl⟩
  · cases e
theorem od_addS : OpD X (binaryOp .Add) dAddS := ⟨_, op_add_str, fun fm G H σ ρ x y dx dy d Q rp vx vy e k => by
  unfold dAddS at e
  split at e
  · obtain ⟨hc, e⟩ := chk_ok e
    cases e
    exact ⟨_, _, vx.str, vy.str, big_le hc, k _ G H (Ex.refl G) rp (.str _)⟩
  · cases e⟩
theorem od_addT : OpD X (binaryOp .Add) dAddT := ⟨_, op_catA, fun fm G H σ ρ x y dx dy d Q rp vx vy e k => by
  unfold dAddT at e
  split at e
  · obtain ⟨hc, e⟩ := chk_ok e
    cases e
    obtain ⟨a, vs, rfl, ha, ga, da⟩ := vx.tup rp.gh
    obtain ⟨b, ws, rfl, hb, gb, db⟩ := vy.tup rp.gh
    refine ⟨a, b, vs, ws, rfl, rfl, ha, hb, by rw [dpa_len da, dpa_len db]; exact big_le hc, fun h => ?_, fun h h2 => ?_, fun h h2 p hp => ?_⟩
    · subst h
      cases da
      exact k _ G H (Ex.refl G) rp (.tup gb db)
    · subst h2
      cases db
      rw [List.append_nil] at k
      exact k _ G H (Ex.refl G) rp (.tup ga da)
    · have gp : G p = none := fresh_back rp.gh hp
      exact k _ _ _ (Ex.new gp) (rp.gnew hp) (.tup (st_of upd_same) (dpa_mono (Ex.new gp) (dpa_app da db)))
  · cases e⟩
theorem od_add : OpD X (binaryOp .Add) dAdd := opd_or od_addI (opd_or (h := fun x y => match x, y with
    | .str x, .str y => chk (x.length + y.length ≤ big) (.ok (.str (x ++ y)))
    | .tuple xs, .tuple ys => chk (xs.length + ys.length ≤ big) (.ok (.tuple (xs ++ ys)))
    | _, _ => .bad) od_addS od_addT fun x y d e => by
      split at e
      · exact .inl e
      · exact .inr e
      · cases e) fun x y d e => by
  unfold dAdd at e
  split at e
  · exact .inl e
  · exact .inr e
  · exact .inr e
  · cases e

/-! ### comparisons -/
def dEq (x y : PyData) : R PyData := chk ((SeqAt.shaped x && SeqAt.shaped y) = true) (.ok (.bool (PyData.eqv x y)))
def dNe (x y : PyData) : R PyData := chk ((SeqAt.shaped x && SeqAt.shaped y) = true) (.ok (.bool (!PyData.eqv x y)))
def isNone : PyData → Bool
  | .none => true
  | _ => false
def okCmp (x y : PyData) : Bool := PySem.W.alike x y && !isNone x && decide (x.depth ≤ 60)
def dLt (x y : PyData) : R PyData := chk (okCmp x y = true) (.ok (.bool (PySem.W.dataLt x y)))
def dGt (x y : PyData) : R PyData := chk (okCmp x y = true) (.ok (.bool (PySem.W.dataLt y x)))
def dLe (x y : PyData) : R PyData := chk (okCmp x y = true) (.ok (.bool (!PySem.W.dataLt y x)))
def dGe (x y : PyData) : R PyData := chk (okCmp x y = true) (.ok (.bool (!PySem.W.dataLt x y)))
theorem okCmp_of {x y : PyData} {A : Around} (h : okCmp x y = true) (hu : A.units + 190 < cLine) : PySem.W.alike x y = true ∧ x ≠ .none ∧ A.units + min x.depth y.depth < cLine := by
  unfold okCmp at h
  rw [Bool.and_eq_true, Bool.and_eq_true] at h
  refine ⟨h.1.1, ?_, ?_⟩
  · rintro rfl
    exact absurd h.1.2 (by decide)
  · have h1 : x.depth ≤ 60 := of_decide_eq_true h.2
    have h2 : min x.depth y.depth ≤ x.depth := Nat.min_le_left _ _
    omega
def rCmpD (K : PySem.W.Frag) (f : PyData → PyData → Bool) : R2 := fun x y H Q => ∃ dx dy, Dp K H x dx ∧ Dp K H y dy ∧ okCmp dx dy = true ∧ Q (.bl (f dx dy)) H
theorem opCmpD {op : CmpOp} {f : PyData → PyData → Bool} (hu : X.A.units + 190 < cLine) (rule : ∀ (s : Shared) (a b : Value) (da db : PyData) (as bs : List Addr) (Q : Value → Shared → Prop) (E : Value → Shared → Prop), Reads s.heap a da as → Reads s.heap b db bs → PySem.W.alike da db = true → da ≠ .none →
    X.A.units + min da.depth db.depth < cLine → Q (.bool (f da db)) s → wpAny (model X.prog X.w) X.A (compareOp op a b) Q E s) : OpR X (compareOp op) (rCmpD X.K f) := by
  intro pins s σ H x y v u Q I rx ry ⟨dx, dy, h1, h2, hc, q⟩
  obtain ⟨as, r1⟩ := Dp.reads I dx x v h1 rx
  obtain ⟨bs, r2⟩ := Dp.reads I dy y u h2 ry
  obtain ⟨c1, c2, c3⟩ := okCmp_of hc hu
  exact rule s v u dx dy as bs _ _ r1 r2 c1 c2 c3 ⟨.bl _, H, I, rfl, q⟩
theorem od_cmp {op : CmpOp} {f : PyData → PyData → Bool} {g : PyData → PyData → R PyData} (ho : OpR X (compareOp op) (rCmpD X.K f)) (hg : ∀ x y d, g x y = .ok d → okCmp x y = true ∧ d = .bool (f x y)) : OpD X (compareOp op) g :=
  ⟨_, ho, fun fm G H σ ρ x y dx dy d Q rp vx vy e k => by
    obtain ⟨hc, rfl⟩ := hg dx dy d e
    exact ⟨dx, dy, vx.dp rp.gh, vy.dp rp.gh, hc, k _ G H (Ex.refl G) rp (.bl _)⟩⟩
theorem cmp_chk {x y : PyData} {b : Bool} {d : PyData} (e : chk (okCmp x y = true) (.ok (.bool b)) = .ok d) : okCmp x y = true ∧ d = .bool b := by
  obtain ⟨h, e⟩ := chk_ok e
  cases e
  exact ⟨h, rfl⟩
variable (c : Cxo X)
include c
theorem od_lt : OpD X (compareOp .Lt) dLt := od_cmp (f := PySem.W.dataLt) (opCmpD c.hu fun _ _ _ _ _ _ _ _ _ r1 r2 h n u q => PySem.W.lt_data r1 r2 h n u q) fun _ _ _ e => cmp_chk e
theorem od_gt : OpD X (compareOp .Gt) dGt := od_cmp (f := fun x y => PySem.W.dataLt y x) (opCmpD c.hu fun _ _ _ _ _ _ _ _ _ r1 r2 h n u q => PySem.W.gt_data r1 r2 h n u q) fun _ _ _ e => cmp_chk e
theorem od_le : OpD X (compareOp .LtE) dLe := od_cmp (f := fun x y => !PySem.W.dataLt y x) (opCmpD c.hu fun _ _ _ _ _ _ _ _ _ r1 r2 h n u q => PySem.W.le_data r1 r2 h n u q) fun _ _ _ e => cmp_chk e
theorem od_ge : OpD X (compareOp .GtE) dGe := od_cmp (f := fun x y => !PySem.W.dataLt x y) (opCmpD c.hu fun _ _ _ _ _ _ _ _ _ r1 r2 h n u q => PySem.W.ge_data r1 r2 h n u q) fun _ _ _ e => cmp_chk e
theorem eq_chk {x y : PyData} {b : Bool} {d : PyData} (e : chk ((SeqAt.shaped x && SeqAt.shaped y) = true) (.ok (.bool b)) = .ok d) : SeqAt.shaped x = true ∧ SeqAt.shaped y = true ∧ d = .bool b := by
  obtain ⟨h, e⟩ := chk_ok e
  cases e
  rw [Bool.and_eq_true] at h
  exact ⟨h.1, h.2, rfl⟩
theorem od_eq : OpD X (compareOp .Eq) dEq := ⟨_, op_eqD (by have := c.hu; omega), fun fm G H σ ρ x y dx dy d Q rp vx vy e k => by
  obtain ⟨h1, h2, rfl⟩ := eq_chk c e
  exact ⟨dx, dy, vx.dp rp.gh, vy.dp rp.gh, h1, h2, k _ G H (Ex.refl G) rp (.bl _)⟩⟩
theorem od_ne : OpD X (compareOp .NotEq) dNe := ⟨_, op_neD (by have := c.hu; omega), fun fm G H σ ρ x y dx dy d Q rp vx vy e k => by
  obtain ⟨h1, h2, rfl⟩ := eq_chk c e
  exact ⟨dx, dy, vx.dp rp.gh, vy.dp rp.gh, h1, h2, k _ G H (Ex.refl G) rp (.bl _)⟩⟩
/-- x in a list, a tuple, a text -/
def inAll (x : PyData) (xs : List PyData) : Bool := xs.any fun z => PyData.eqv z x
def dInQ (x y : PyData) : R Bool := match y with
  | .list xs => chk ((SeqAt.shaped x && SeqAt.shaped y) = true) (.ok (inAll x xs))
  | .tuple xs => chk ((SeqAt.shaped x && SeqAt.shaped y) = true) (.ok (inAll x xs))
  | .str z => match x with
    | .str ⟨⟨[c]⟩⟩ => .ok (decide (c ∈ z.cps.toList))
    | _ => .bad
  | _ => .bad
def dIn (x y : PyData) : R PyData := (dInQ x y).bind fun b => .ok (.bool b)
def dNotIn (x y : PyData) : R PyData := (dInQ x y).bind fun b => .ok (.bool (!b))
end
end FM
/-! membership, displays, subscripts, built-in calls -/
namespace FM
open PySem PySem.Spec PyProof.Rows L2 Evl

/-! ### in, not in -/
section
variable {X : Cx}
def rInA (K : PySem.W.Frag) (neg : Bool) : R2 := fun x y H Q => ∃ dx dy b, Dp K H x dx ∧ Dp K H y dy ∧ dInQ dx dy = .ok b ∧ Q (.bl (if neg = true then !b else b)) H
theorem shaped_lst {xs : List PyData} (h : SeqAt.shaped (.list xs) = true) : PyData.canLayAll0 xs = true ∧ PyData.depthAll xs ≤ 63 := by
  have h1 := SeqAt.canLay_of_shaped h
  have h2 := SeqAt.depth_of_shaped h
  simp only [PyData.depth] at h2
  simp only [PyData.canLay0] at h1
  exact ⟨h1, by omega⟩
theorem shaped_tup {xs : List PyData} (h : SeqAt.shaped (.tuple xs) = true) : PyData.canLayAll0 xs = true ∧ PyData.depthAll xs ≤ 63 := by
  have h1 := SeqAt.canLay_of_shaped h
  have h2 := SeqAt.depth_of_shaped h
  simp only [PyData.depth] at h2
  simp only [PyData.canLay0] at h1
  exact ⟨h1, by omega⟩
theorem op_inA (c : Cxo X) : OpR X (compareOp .In) (rInA X.K false) := by
  intro pins s σ H x y v u Q I rx ry ⟨dx, dy, b, h1, h2, e, q⟩
  have hu := c.hu
  have q' : Q (.bl b) H := q
  cases dy with
  | list xs =>
    obtain ⟨hs, e⟩ := chk_ok e
    cases e
    rw [Bool.and_eq_true] at hs
    obtain ⟨as, r1⟩ := Dp.reads I dx x v h1 rx
    obtain ⟨bs, r2⟩ := Dp.reads I _ y u h2 ry
    obtain ⟨k1, k2⟩ := shaped_lst hs.2
    have m1 : min (PyData.depthAll xs) dx.depth ≤ PyData.depthAll xs := Nat.min_le_left _ _
    exact SeqAt.in_list_reads r2 r1 k1 (SeqAt.canLay_of_shaped hs.1) (by omega) ⟨.bl _, H, I, rfl, q'⟩
  | tuple xs =>
    obtain ⟨hs, e⟩ := chk_ok e
    cases e
    rw [Bool.and_eq_true] at hs
    obtain ⟨as, r1⟩ := Dp.reads I dx x v h1 rx
    obtain ⟨bs, r2⟩ := Dp.reads I _ y u h2 ry
    obtain ⟨k1, k2⟩ := shaped_tup hs.2
    have m1 : min (PyData.depthAll xs) dx.depth ≤ PyData.depthAll xs := Nat.min_le_left _ _
    exact SeqAt.in_tuple_reads r2 r1 k1 (SeqAt.canLay_of_shaped hs.1) (by omega) ⟨.bl _, H, I, rfl, q'⟩
  | str z =>
    unfold dInQ at e
    cases h2
    cases dx with
    | str t =>
      obtain ⟨⟨l⟩⟩ := t
      match l, e with
      | [ch], e =>
        cases e
        cases h1
        exact op_in_sign pins s σ H _ _ v u Q I rx ry ⟨ch, z, rfl, rfl, q'⟩
    | _ => cases e
  | _ => cases e
theorem op_notInA (c : Cxo X) : OpR X (compareOp .NotIn) (rInA X.K true) := by
  intro pins s σ H x y v u Q I rx ry ⟨dx, dy, b, h1, h2, e, q⟩
  have hu := c.hu
  have q' : Q (.bl (!b)) H := q
  cases dy with
  | list xs =>
    obtain ⟨hs, e⟩ := chk_ok e
    cases e
    rw [Bool.and_eq_true] at hs
    obtain ⟨as, r1⟩ := Dp.reads I dx x v h1 rx
    obtain ⟨bs, r2⟩ := Dp.reads I _ y u h2 ry
    obtain ⟨k1, k2⟩ := shaped_lst hs.2
    have m1 : min (PyData.depthAll xs) dx.depth ≤ PyData.depthAll xs := Nat.min_le_left _ _
    exact SeqAt.notIn_list_reads r2 r1 k1 (SeqAt.canLay_of_shaped hs.1) (by omega) ⟨.bl _, H, I, rfl, q'⟩
  | tuple xs =>
    obtain ⟨hs, e⟩ := chk_ok e
    cases e
    rw [Bool.and_eq_true] at hs
    obtain ⟨as, r1⟩ := Dp.reads I dx x v h1 rx
    obtain ⟨bs, r2⟩ := Dp.reads I _ y u h2 ry
    obtain ⟨k1, k2⟩ := shaped_tup hs.2
    have m1 : min (PyData.depthAll xs) dx.depth ≤ PyData.depthAll xs := Nat.min_le_left _ _
    exact SeqAt.notIn_tuple_reads r2 r1 k1 (SeqAt.canLay_of_shaped hs.1) (by omega) ⟨.bl _, H, I, rfl, q'⟩
  | str z =>
    unfold dInQ at e
    cases h2
    cases dx with
    | str t =>
      obtain ⟨⟨l⟩⟩ := t
      match l, e with
      | [ch], e =>
        cases e
        cases h1
        exact op_notIn_sign pins s σ H _ _ v u Q I rx ry ⟨ch, z, rfl, rfl, q'⟩
    | _ => cases e
  | _ => cases e
theorem od_in (c : Cxo X) : OpD X (compareOp .In) dIn := ⟨_, op_inA c, fun fm G H σ ρ x y dx dy d Q rp vx vy e k => by
  obtain ⟨b, e1, e⟩ := R.of_bind e
  cases e
  exact ⟨dx, dy, b, vx.dp rp.gh, vy.dp rp.gh, e1, k _ G H (Ex.refl G) rp (.bl _)⟩⟩
theorem od_notIn (c : Cxo X) : OpD X (compareOp .NotIn) dNotIn := ⟨_, op_notInA c, fun fm G H σ ρ x y dx dy d Q rp vx vy e k => by
  obtain ⟨b, e1, e⟩ := R.of_bind e
  cases e
  exact ⟨dx, dy, b, vx.dp rp.gh, vy.dp rp.gh, e1, k _ G H (Ex.refl G) rp (.bl _)⟩⟩
/-- is None, is not None -/
def dIsN (x y : PyData) : R PyData := match y with
  | .none => .ok (.bool (isNone x))
  | _ => .bad
def dNotN (x y : PyData) : R PyData := match y with
  | .none => .ok (.bool (!isNone x))
  | _ => .bad
theorem vw_isNone {K : Tri} {G H : Hp} {v : V} {d : PyData} (h : Vw K G H v d) : decide (v = .non) = isNone d := by
  rcases h with h | ⟨a, vs, xs, rfl, rfl, _, _⟩
  · cases h <;> first | rfl | (apply decide_eq_false; intro z; cases z)
  · apply decide_eq_false
    intro z
    cases z
theorem od_isN : OpD X (compareOp .Is) dIsN := ⟨_, op_isN, fun fm G H σ ρ x y dx dy d Q rp vx vy e k => by
  unfold dIsN at e
  cases dy with
  | none =>
    cases e
    exact ⟨vy.none, by rw [vw_isNone vx]; exact k _ G H (Ex.refl G) rp (.bl _)⟩
  | _ => cases e⟩
theorem od_notN : OpD X (compareOp .IsNot) dNotN := ⟨_, op_notN, fun fm G H σ ρ x y dx dy d Q rp vx vy e k => by
  unfold dNotN at e
  cases dy with
  | none =>
    cases e
    exact ⟨vy.none, by rw [vw_isNone vx]; exact k _ G H (Ex.refl G) rp (.bl _)⟩
  | _ => cases e⟩
/-- -x -/
def dNeg : PyData → R PyData
  | .int i => .ok (.int (-i))
  | _ => .bad
def UnD (X : Cx) (F : Value → Sem Value) (f : PyData → R PyData) : Prop := ∃ r, UnR X F r ∧
  ∀ fm G H σ ρ x dx d Q, Rp X.tri fm G H σ ρ → Vw X.tri G H x dx → f dx = .ok d → (∀ v G' H', Ex G G' → Rp X.tri fm G' H' σ ρ → Dp X.K G' v d → Q v H') → r x H Q
theorem ud_neg : UnD X (unaryOp .USub) dNeg := ⟨_, un_neg, fun fm G H σ ρ x dx d Q rp vx e k => by
  cases dx with
  | int i =>
    cases e
    exact ⟨i, vx.int, k _ G H (Ex.refl G) rp (.int _)⟩
  | _ => cases e⟩
theorem se_un {op : UnaryOp} {f : PyData → R PyData} {a : Expr} {pos : Pos} {m : M Hd} (ho : UnD X (unaryOp op) f) (ha : PE X a (TM X.tri m)) : PE X (.UnaryOp op a pos) (TM X.tri (mUn f m)) := by
  obtain ⟨r, h1, h2⟩ := ho
  refine pe_imp (pe_un h1 ha) fun σ H Q ⟨fm, G, ρ, h, ρ', rp, e, k⟩ => ?_
  obtain ⟨⟨h1, ρ1⟩, e1, e⟩ := R.of_bind e
  obtain ⟨d1, e2, e⟩ := R.of_bind e
  obtain ⟨d2, e3, e⟩ := R.of_bind e
  cases e
  refine ⟨fm, G, ρ, h1, ρ1, rp, e1, fun x G1 H1 x1 rp1 hx => ?_⟩
  exact h2 fm G1 H1 σ ρ1 x d1 d2 Q rp1 (rs_vw rp1 hx e2) e3 fun v G' H' x' r' hd => k v G' H' (x1.trans x') r' hd
end

/-! ### argument lists, displays -/
@[simp] def mNil (ρ : Ro) : R (List Hd × Ro) := .ok ([], ρ)
@[simp] def mCons (m : M Hd) (ms : M (List Hd)) (ρ : Ro) : R (List Hd × Ro) := (m ρ).bind fun p => (ms p.2).bind fun q => .ok (p.1 :: q.1, q.2)
@[simp] def mTup (ms : M (List Hd)) (ρ : Ro) : R (Hd × Ro) := (ms ρ).bind fun p => (fzs p.1 p.2).bind fun q => chk (q.1.length ≤ big) (.ok (.dat (.tuple q.1), q.2))
@[simp] def mLst (ms : M (List Hd)) (ρ : Ro) : R (List PyData × Ro) := (ms ρ).bind fun p => (fzs p.1 p.2).bind fun q => chk (q.1.length ≤ big) (.ok (q.1, q.2))
section
variable {X : Cx} {e : Expr} {es : List Expr} {pos : Pos} {m n : M Hd} {ms : M (List Hd)}
theorem sa_nil : PA X [] (TAs X.tri mNil) := pa_imp pa_nil fun σ H Q ⟨fm, G, ρ, h, ρ', rp, e, k⟩ => by
  cases e
  exact k [] G H (Ex.refl G) rp .nil
theorem sa_cons (ha : PE X e (TM X.tri m)) (hr : PA X es (TAs X.tri ms)) (hs : starEach (e :: es) X.env = (false, eval e X.env) :: starEach es X.env := by rfl) : PA X (e :: es) (TAs X.tri (mCons m ms)) :=
  pa_imp (pa_cons ha hr hs) fun σ H Q ⟨fm, G, ρ, h, ρ', rp, e, k⟩ => by
    obtain ⟨⟨h1, ρ1⟩, e1, e⟩ := R.of_bind e
    obtain ⟨⟨h2, ρ2⟩, e2, e⟩ := R.of_bind e
    cases e
    exact ⟨fm, G, ρ, h1, ρ1, rp, e1, fun x G1 H1 x1 rp1 hx => ⟨fm, G1, ρ1, h2, ρ2, rp1, e2, fun y G2 H2 x2 rp2 hy => k (x :: y) G2 H2 (x1.trans x2) rp2 (.cons (relh_mono x2 hx) hy)⟩⟩
theorem se_tup {x1} (h : PA X es (TAs X.tri ms)) : PE X (.Tuple es x1 pos) (TM X.tri (mTup ms)) := pe_imp (pe_tup h) fun σ H Q ⟨fm, G, ρ, h, ρ', rp, e, k⟩ => by
  obtain ⟨⟨hs, ρ1⟩, e1, e⟩ := R.of_bind e
  obtain ⟨⟨ds, ρ2⟩, e2, e⟩ := R.of_bind e
  obtain ⟨hz, e⟩ := chk_ok e
  cases e
  refine ⟨fm, G, ρ, hs, ρ1, rp, e1, fun vs G1 H1 x1 rp1 hv => ?_⟩
  obtain ⟨G2, x2, rp2, da⟩ := fzs_ok rp1 hv e2
  refine ⟨by rw [dpa_len da]; exact big_le hz, fun p hp => ?_⟩
  have gp : G2 p = none := fresh_back rp2.gh hp
  exact k _ _ _ ((x1.trans x2).trans (Ex.new gp)) (rp2.gnew hp) (.tup (st_of upd_same) (dpa_mono (Ex.new gp) da))
theorem sl_lst (h : PA X es (TAs X.tri ms)) : PE X (.List es pos) (TL X.tri (mLst ms)) := pe_imp (pe_lst h) fun σ H Q ⟨fm, G, ρ, h, ρ', rp, e, k⟩ => by
  obtain ⟨⟨hs, ρ1⟩, e1, e⟩ := R.of_bind e
  obtain ⟨⟨ds, ρ2⟩, e2, e⟩ := R.of_bind e
  obtain ⟨hz, e⟩ := chk_ok e
  cases e
  refine ⟨fm, G, ρ, hs, ρ1, rp, e1, fun vs G1 H1 x1 rp1 hv => ?_⟩
  obtain ⟨G2, x2, rp2, da⟩ := fzs_ok rp1 hv e2
  refine ⟨by rw [dpa_len da]; exact big_le hz, fun p hp => ?_⟩
  exact k _ G2 _ (x1.trans x2) (rp2.grow (Ex.new hp)) (newl_new rp2 hp da)
end

/-! ### subscripts -/
theorem at_dpa {K : PySem.W.Frag} {H : Hp} {vs : List V} {ds : List PyData} {i : Int} {d : PyData} (a : DpAll K H vs ds) (h : atI ds i = some d) : ∃ v, atI vs i = some v ∧ Dp K H v d := by
  unfold atI at h ⊢
  rw [dpa_len a]
  cases q : ixN ds.length i with
  | none =>
    rw [q] at h
    cases h
  | some j =>
    rw [q] at h
    exact dpa_at a h
def dIx (x y : PyData) : R PyData := match y with
  | .int i => match x with
    | .list xs => match atI xs i with
      | some d => .ok d
      | none => .bad
    | .tuple xs => match atI xs i with
      | some d => .ok d
      | none => .bad
    | .str z => chk (z.length ≤ big) (match atI z.cps.toList i with
      | some c => .ok (.str ⟨#[c]⟩)
      | none => .bad)
    | _ => .bad
  | _ => .bad
def IxD (X : Cx) (f : PyData → PyData → R PyData) : Prop := ∃ r : R2, IxR X r ∧
  ∀ fm G H σ ρ x y dx dy d Q, Rp X.tri fm G H σ ρ → Vw X.tri G H x dx → Vw X.tri G H y dy → f dx dy = .ok d → (∀ v G' H', Ex G G' → Rp X.tri fm G' H' σ ρ → Dp X.K G' v d → Q v H') → r x y H Q
section
variable {X : Cx} {a b : Expr} {pos : Pos} {m n : M Hd}
theorem ixd : IxD X dIx := ⟨_, ix_seq, fun fm G H σ ρ x y dx dy d Q rp vx vy e k => by
  unfold dIx at e
  cases dy with
  | int i =>
    cases dx with
    | list xs =>
      obtain ⟨p, vs, rfl, hs, da⟩ := vx.lst rp.gh
      cases q : atI xs i with
      | none =>
        simp only [q] at e
        cases e
      | some d' =>
        simp only [q] at e
        cases e
        obtain ⟨v, hv, dv⟩ := at_dpa da q
        exact .inl ⟨p, vs, i, v, rfl, vy.int, hs, hv, k v G H (Ex.refl G) rp dv⟩
    | tuple xs =>
      obtain ⟨p, vs, rfl, hs, _, da⟩ := vx.tup rp.gh
      cases q : atI xs i with
      | none =>
        simp only [q] at e
        cases e
      | some d' =>
        simp only [q] at e
        cases e
        obtain ⟨v, hv, dv⟩ := at_dpa da q
        exact .inr (.inl ⟨p, vs, i, v, rfl, vy.int, hs, hv, k v G H (Ex.refl G) rp dv⟩)
    | str z =>
      obtain ⟨hz, e⟩ := chk_ok e
      cases q : atI z.cps.toList i with
      | none =>
        simp only [q] at e
        cases e
      | some ch =>
        simp only [q] at e
        cases e
        exact .inr (.inr ⟨z, i, ch, vx.str, vy.int, big_le hz, q, k _ G H (Ex.refl G) rp (.str _)⟩)
    | _ => cases e
  | _ => cases e⟩
theorem se_ix (ha : PE X a (TM X.tri m)) (hb : PE X b (TM X.tri n)) (hs : PlainIx b := by intro _ _; rfl) : PE X (.Subscript a b pos) (TM X.tri (mBin dIx m n)) := by
  obtain ⟨r, h1, h2⟩ := ixd (X := X)
  exact pe_imp (pe_ix h1 ha hb hs) (bin_to (F := fun _ _ => pure .none) h2)
/-- the parts of a slice -/
def TP' (K : Tri) (m : M (Option Int)) : TO := fun σ H Q => ∃ fm G ρ a ρ', Rp K fm G H σ ρ ∧ m ρ = .ok (a, ρ') ∧ ∀ G' H', Ex G G' → Rp K fm G' H' σ ρ' → Q a H'
@[simp] def mNoP (ρ : Ro) : R (Option Int × Ro) := .ok (none, ρ)
@[simp] def mP (m : M Hd) (ρ : Ro) : R (Option Int × Ro) := (m ρ).bind fun p => (rs p.1 p.2).bind fun d => match d with
  | .int i => .ok (some i, p.2)
  | _ => .bad
theorem po_imp {e : Option Expr} {t t' : TO} (h : PO X e t) (k : ∀ σ H Q, t' σ H Q → t σ H Q) : PO X e t' := ⟨fun pins s σ H Q I q => h.run pins s σ H Q I (k σ H Q q)⟩
theorem so_none : PO X none (TP' X.tri mNoP) := po_imp po_none fun σ H Q ⟨fm, G, ρ, h, ρ', rp, e, k⟩ => by
  cases e
  exact k G H (Ex.refl G) rp
theorem so_some {e : Expr} (h : PE X e (TM X.tri m)) : PO X (some e) (TP' X.tri (mP m)) := po_imp (po_some h) fun σ H Q ⟨fm, G, ρ, h, ρ', rp, e, k⟩ => by
  obtain ⟨⟨h1, ρ1⟩, e1, e⟩ := R.of_bind e
  obtain ⟨d1, e2, e⟩ := R.of_bind e
  refine ⟨fm, G, ρ, h1, ρ1, rp, e1, fun v G1 H1 x1 rp1 hv => ?_⟩
  have q := rs_vw rp1 hv e2
  cases d1 with
  | int i =>
    cases e
    exact ⟨i, q.int, k G1 H1 x1 rp1⟩
  | _ => cases e
def cutL {α : Type} (xs : List α) (lo hi : Option Int) : List α := (xs.drop (HT.sIx xs.length 0 lo)).take (HT.sIx xs.length xs.length hi - HT.sIx xs.length 0 lo)
theorem cut_dpa {K : PySem.W.Frag} {H : Hp} {vs : List V} {ds : List PyData} (lo hi : Option Int) (a : DpAll K H vs ds) : DpAll K H (cutV vs lo hi) (cutL ds lo hi) := by
  unfold cutV cutL
  rw [dpa_len a]
  exact dpa_take _ (dpa_drop _ a)
theorem cut_whole {α : Type} {xs : List α} {lo hi : Option Int} (h : HT.sIx xs.length 0 lo = 0 ∧ HT.sIx xs.length xs.length hi = xs.length) : cutL xs lo hi = xs := by
  unfold cutL
  rw [h.1, h.2, List.drop_zero, Nat.sub_zero, List.take_length]
def dCut (x : PyData) (lo hi : Option Int) : R PyData := match x with
  | .list xs => .ok (.list (cutL xs lo hi))
  | .tuple xs => .ok (.tuple (cutL xs lo hi))
  | .str z => chk (z.length ≤ big) (.ok (.str (Txt.slice z lo hi)))
  | _ => .bad
@[simp] def mCut (m : M Hd) (l h : M (Option Int)) (ρ : Ro) : R (Hd × Ro) := (m ρ).bind fun p => (l p.2).bind fun q => (h q.2).bind fun r => (rs p.1 r.2).bind fun d => (dCut d q.1 r.1).bind fun z => .ok (.dat z, r.2)
theorem se_cut {p2 : Pos} {lo hi : Option Expr} {ml mh : M (Option Int)} (he : PE X a (TM X.tri m)) (hl : PO X lo (TP' X.tri ml)) (hu : PO X hi (TP' X.tri mh)) : PE X (.Subscript a (.Slice lo hi none p2) pos) (TM X.tri (mCut m ml mh)) :=
  pe_imp (pe_slice (sl_list.or (sl_tupA.or C8.sl_txt)) he hl hu) fun σ H Q ⟨fm, G, ρ, h, ρ', rp, e, k⟩ => by
    obtain ⟨⟨h1, ρ1⟩, e1, e⟩ := R.of_bind e
    obtain ⟨⟨l, ρ2⟩, e2, e⟩ := R.of_bind e
    obtain ⟨⟨u, ρ3⟩, e3, e⟩ := R.of_bind e
    obtain ⟨d, e4, e⟩ := R.of_bind e
    obtain ⟨z, e5, e⟩ := R.of_bind e
    cases e
    refine ⟨fm, G, ρ, h1, ρ1, rp, e1, fun x G1 H1 x1 rp1 hx => ⟨fm, G1, ρ1, l, ρ2, rp1, e2, fun G2 H2 x2 rp2 => ⟨fm, G2, ρ2, u, ρ3, rp2, e3, fun G3 H3 x3 rp3 => ?_⟩⟩⟩
    have vx := rs_vw rp3 (relh_mono (x2.trans x3) hx) e4
    have xx := (x1.trans x2).trans x3
    cases d with
    | list xs =>
      cases e5
      obtain ⟨p, vs, rfl, hs, da⟩ := vx.lst rp3.gh
      refine .inl ⟨p, vs, rfl, hs, fun q hq => ?_⟩
      have gp : G3 q = none := fresh_back rp3.gh hq
      exact k _ _ _ (xx.trans (Ex.new gp)) (rp3.gnew hq) (.lst (sq_of upd_same) (dpa_mono (Ex.new gp) (cut_dpa l u da)))
    | tuple xs =>
      cases e5
      obtain ⟨p, vs, rfl, hs, gs, da⟩ := vx.tup rp3.gh
      refine .inr (.inl ⟨p, vs, rfl, hs, fun w => ?_, fun w q hq => ?_⟩)
      · rw [dpa_len da] at w
        rw [cut_whole w] at k
        exact k _ G3 H3 xx rp3 (.tup gs da)
      · have gp : G3 q = none := fresh_back rp3.gh hq
        exact k _ _ _ (xx.trans (Ex.new gp)) (rp3.gnew hq) (.tup (st_of upd_same) (dpa_mono (Ex.new gp) (cut_dpa l u da)))
    | str z' =>
      obtain ⟨hz, e5⟩ := chk_ok e5
      cases e5
      exact .inr (.inr ⟨z', vx.str, big_le hz, k _ G3 H3 xx rp3 (.str _)⟩)
    | _ => cases e5
end

/-! ### calls of built-ins -/
inductive VwAll (K : Tri) (G H : Hp) : List V → List PyData → Prop
  | nil : VwAll K G H [] []
  | cons {v : V} {vs : List V} {d : PyData} {ds : List PyData} : Vw K G H v d → VwAll K G H vs ds → VwAll K G H (v :: vs) (d :: ds)
def rss : List Hd → Ro → R (List PyData)
  | [], _ => .ok []
  | h :: hs, ρ => (rs h ρ).bind fun d => (rss hs ρ).bind fun ds => .ok (d :: ds)
theorem rss_vw {K : Tri} {fm : Fm} {G H : Hp} {σ : L2.St} {ρ : Ro} (rp : Rp K fm G H σ ρ) : ∀ {hs : List Hd} {vs : List V} {ds : List PyData}, RelHs K G σ vs hs → rss hs ρ = .ok ds → VwAll K G H vs ds
  | [], _, _, .nil, e => by
    cases e
    exact .nil
  | h :: hs, _, _, .cons h1 h2, e => by
    obtain ⟨d, e1, e⟩ := R.of_bind e
    obtain ⟨ds, e2, e⟩ := R.of_bind e
    cases e
    exact .cons (rs_vw rp h1 e1) (rss_vw rp h2 e2)
@[simp] def mB (g : List PyData → R PyData) (ms : M (List Hd)) (ρ : Ro) : R (Hd × Ro) := (ms ρ).bind fun p => (rss p.1 p.2).bind fun ds => (g ds).bind fun d => .ok (.dat d, p.2)
@[simp] def mBL (g : List PyData → R (List PyData)) (ms : M (List Hd)) (ρ : Ro) : R (List PyData × Ro) := (ms ρ).bind fun p => (rss p.1 p.2).bind fun ds => (g ds).bind fun xs => .ok (xs, p.2)
def CallD (X : Cx) (f : Value) (g : List PyData → R PyData) : Prop := ∃ r, CallR X f r ∧
  ∀ fm G H σ ρ vs ds d Q, Rp X.tri fm G H σ ρ → VwAll X.tri G H vs ds → g ds = .ok d → (∀ v G' H', Ex G G' → Rp X.tri fm G' H' σ ρ → Dp X.K G' v d → Q v H') → r vs H Q
def CallLD (X : Cx) (f : Value) (g : List PyData → R (List PyData)) : Prop := ∃ r, CallR X f r ∧
  ∀ fm G H σ ρ vs ds xs Q, Rp X.tri fm G H σ ρ → VwAll X.tri G H vs ds → g ds = .ok xs → (∀ v G' H', Ex G G' → Rp X.tri fm G' H' σ ρ → NewL X.tri fm G' H' σ ρ v xs → Q v H') → r vs H Q
section
variable {X : Cx} {x : Str} {p pos : Pos} {e : Expr} {es : List Expr} {ms : M (List Hd)} {id T : String}
theorem b_to {r : List V → Hp → VK → Prop} {g : List PyData → R PyData} (h : ∀ fm G H σ ρ vs ds d Q, Rp X.tri fm G H σ ρ → VwAll X.tri G H vs ds → g ds = .ok d → (∀ v G' H', Ex G G' → Rp X.tri fm G' H' σ ρ → Dp X.K G' v d → Q v H') → r vs H Q) :
    ∀ σ H Q, TM X.tri (mB g ms) σ H Q → tCB r (TAs X.tri ms) σ H Q := fun σ H Q ⟨fm, G, ρ, h', ρ', rp, e, k⟩ => by
  obtain ⟨⟨hs, ρ1⟩, e1, e⟩ := R.of_bind e
  obtain ⟨ds, e2, e⟩ := R.of_bind e
  obtain ⟨d, e3, e⟩ := R.of_bind e
  cases e
  exact ⟨fm, G, ρ, hs, ρ1, rp, e1, fun vs G1 H1 x1 rp1 hv => h fm G1 H1 σ ρ1 vs ds _ Q rp1 (rss_vw rp1 hv e2) e3 fun v G' H' x' r' hd => k v G' H' (x1.trans x') r' hd⟩
theorem bl_to {r : List V → Hp → VK → Prop} {g : List PyData → R (List PyData)} (h : ∀ fm G H σ ρ vs ds xs Q, Rp X.tri fm G H σ ρ → VwAll X.tri G H vs ds → g ds = .ok xs → (∀ v G' H', Ex G G' → Rp X.tri fm G' H' σ ρ → NewL X.tri fm G' H' σ ρ v xs → Q v H') → r vs H Q) :
    ∀ σ H Q, TL X.tri (mBL g ms) σ H Q → tCB r (TAs X.tri ms) σ H Q := fun σ H Q ⟨fm, G, ρ, h', ρ', rp, e, k⟩ => by
  obtain ⟨⟨hs, ρ1⟩, e1, e⟩ := R.of_bind e
  obtain ⟨ds, e2, e⟩ := R.of_bind e
  obtain ⟨d, e3, e⟩ := R.of_bind e
  cases e
  exact ⟨fm, G, ρ, hs, ρ1, rp, e1, fun vs G1 H1 x1 rp1 hv => h fm G1 H1 σ ρ1 vs ds _ Q rp1 (rss_vw rp1 hv e2) e3 fun v G' H' x' r' hd => k v G' H' (x1.trans x') r' hd⟩
theorem se_b {g : List PyData → R PyData} (hc : CallD X (.builtin id) g) (hm : X.mg x = none) (hv : bootBuiltins x = some (.builtin id)) (ha : PA X (e :: es) (TAs X.tri ms)) (hg : Gl X x := by rfl) (hn : x ≠ "__name__" := by decide) (hdb : (x == ("__debug__" : Str)) = false := by rfl)
    (he : starEach (e :: es) X.env = (false, eval e X.env) :: starEach es X.env := by rfl) (hpl : (backTo pos (starEach es X.env)).any (·.1) = false := by rfl) : PE X (.Call (.Name x p) (e :: es) [] pos) (TM X.tri (mB g ms)) := by
  obtain ⟨r, h1, h2⟩ := hc
  exact pe_imp (pe_callB h1 hg hm hv ha hn hdb he hpl) (b_to h2)
theorem se_ty {g : List PyData → R PyData} (hc : CallD X (.type T) g) (hm : X.mg x = none) (hv : bootBuiltins x = some (.type T)) (ha : PA X (e :: es) (TAs X.tri ms)) (hg : Gl X x := by rfl) (hn : x ≠ "__name__" := by decide) (hdb : (x == ("__debug__" : Str)) = false := by rfl)
    (he : starEach (e :: es) X.env = (false, eval e X.env) :: starEach es X.env := by rfl) (hpl : (backTo pos (starEach es X.env)).any (·.1) = false := by rfl) : PE X (.Call (.Name x p) (e :: es) [] pos) (TM X.tri (mB g ms)) := by
  obtain ⟨r, h1, h2⟩ := hc
  exact pe_imp (pe_callTy h1 hg hm hv ha hn hdb he hpl) (b_to h2)
theorem sl_b {g : List PyData → R (List PyData)} (hc : CallLD X (.builtin id) g) (hm : X.mg x = none) (hv : bootBuiltins x = some (.builtin id)) (ha : PA X (e :: es) (TAs X.tri ms)) (hg : Gl X x := by rfl) (hn : x ≠ "__name__" := by decide) (hdb : (x == ("__debug__" : Str)) = false := by rfl)
    (he : starEach (e :: es) X.env = (false, eval e X.env) :: starEach es X.env := by rfl) (hpl : (backTo pos (starEach es X.env)).any (·.1) = false := by rfl) : PE X (.Call (.Name x p) (e :: es) [] pos) (TL X.tri (mBL g ms)) := by
  obtain ⟨r, h1, h2⟩ := hc
  exact pe_imp (pe_callB h1 hg hm hv ha hn hdb he hpl) (bl_to h2)
theorem sl_ty {g : List PyData → R (List PyData)} (hc : CallLD X (.type T) g) (hm : X.mg x = none) (hv : bootBuiltins x = some (.type T)) (ha : PA X (e :: es) (TAs X.tri ms)) (hg : Gl X x := by rfl) (hn : x ≠ "__name__" := by decide) (hdb : (x == ("__debug__" : Str)) = false := by rfl)
    (he : starEach (e :: es) X.env = (false, eval e X.env) :: starEach es X.env := by rfl) (hpl : (backTo pos (starEach es X.env)).any (·.1) = false := by rfl) : PE X (.Call (.Name x p) (e :: es) [] pos) (TL X.tri (mBL g ms)) := by
  obtain ⟨r, h1, h2⟩ := hc
  exact pe_imp (pe_callTy h1 hg hm hv ha hn hdb he hpl) (bl_to h2)

/-! the built-ins -/
theorem vwall1 {K : Tri} {G H : Hp} {vs : List V} {d : PyData} (h : VwAll K G H vs [d]) : ∃ v, vs = [v] ∧ Vw K G H v d := by
  cases h with
  | cons a t =>
    cases t
    exact ⟨_, rfl, a⟩
theorem vwall2 {K : Tri} {G H : Hp} {vs : List V} {d e : PyData} (h : VwAll K G H vs [d, e]) : ∃ v w, vs = [v, w] ∧ Vw K G H v d ∧ Vw K G H w e := by
  cases h with
  | cons a t =>
    obtain ⟨w, rfl, b⟩ := vwall1 t
    exact ⟨_, w, rfl, a, b⟩
def gLen : List PyData → R PyData
  | [.list xs] => .ok (.int xs.length)
  | [.tuple xs] => .ok (.int xs.length)
  | [.str z] => chk (z.length ≤ big) (.ok (.int z.length))
  | _ => .bad
theorem cd_len : CallD X (.builtin "len") gLen := ⟨_, call_len_seq.or call_len_str, fun fm G H σ ρ vs ds d Q rp hva e k => by
  unfold gLen at e
  split at e
  · cases e
    obtain ⟨v, rfl, hv⟩ := vwall1 hva
    obtain ⟨p, us, rfl, hs, da⟩ := hv.lst rp.gh
    exact .inl ⟨p, us, rfl, .inl hs, by rw [dpa_len da]; exact k _ G H (Ex.refl G) rp (.int _)⟩
  · cases e
    obtain ⟨v, rfl, hv⟩ := vwall1 hva
    obtain ⟨p, us, rfl, hs, _, da⟩ := hv.tup rp.gh
    exact .inl ⟨p, us, rfl, .inr hs, by rw [dpa_len da]; exact k _ G H (Ex.refl G) rp (.int _)⟩
  · obtain ⟨hz, e⟩ := chk_ok e
    cases e
    obtain ⟨v, rfl, hv⟩ := vwall1 hva
    exact .inr ⟨_, by rw [hv.str], big_le hz, k _ G H (Ex.refl G) rp (.int _)⟩
  · cases e⟩
def gTuple : List PyData → R PyData
  | [.list xs] => .ok (.tuple xs)
  | [.tuple xs] => .ok (.tuple xs)
  | _ => .bad
theorem cd_tuple : CallD X (.type "tuple") gTuple := ⟨_, call_tuple_of, fun fm G H σ ρ vs ds d Q rp hva e k => by
  unfold gTuple at e
  split at e
  · cases e
    obtain ⟨v, rfl, hv⟩ := vwall1 hva
    obtain ⟨p, us, rfl, hs, da⟩ := hv.lst rp.gh
    refine ⟨p, us, rfl, .inl ⟨hs, fun q hq => ?_⟩⟩
    have gp : G q = none := fresh_back rp.gh hq
    exact k _ _ _ (Ex.new gp) (rp.gnew hq) (.tup (st_of upd_same) (dpa_mono (Ex.new gp) da))
  · cases e
    obtain ⟨v, rfl, hv⟩ := vwall1 hva
    obtain ⟨p, us, rfl, hs, gs, da⟩ := hv.tup rp.gh
    exact ⟨p, us, rfl, .inr ⟨hs, k _ G H (Ex.refl G) rp (.tup gs da)⟩⟩
  · cases e⟩
def gList : List PyData → R (List PyData)
  | [.list xs] => .ok xs
  | [.tuple xs] => .ok xs
  | _ => .bad
theorem cd_list : CallLD X (.type "list") gList := ⟨_, call_list_of, fun fm G H σ ρ vs ds d Q rp hva e k => by
  unfold gList at e
  split at e
  · cases e
    obtain ⟨v, rfl, hv⟩ := vwall1 hva
    obtain ⟨p, us, rfl, hs, da⟩ := hv.lst rp.gh
    exact ⟨p, us, rfl, .inl hs, fun q hq => k _ G _ (Ex.refl G) (rp.grow (Ex.new hq)) (newl_new rp hq da)⟩
  · cases e
    obtain ⟨v, rfl, hv⟩ := vwall1 hva
    obtain ⟨p, us, rfl, hs, gs, da⟩ := hv.tup rp.gh
    exact ⟨p, us, rfl, .inr hs, fun q hq => k _ G _ (Ex.refl G) (rp.grow (Ex.new hq)) (newl_new rp hq da)⟩
  · cases e⟩
def gInt : List PyData → R PyData
  | [.int i] => .ok (.int i)
  | [.bool b] => .ok (.int (if b = true then 1 else 0))
  | _ => .bad
theorem cd_int : CallD X (.type "int") gInt := ⟨_, call_int1, fun fm G H σ ρ vs ds d Q rp hva e k => by
  unfold gInt at e
  split at e
  · cases e
    obtain ⟨v, rfl, hv⟩ := vwall1 hva
    exact .inl ⟨_, by rw [hv.int], k _ G H (Ex.refl G) rp (.int _)⟩
  · cases e
    obtain ⟨v, rfl, hv⟩ := vwall1 hva
    exact .inr ⟨_, by rw [hv.bool], k _ G H (Ex.refl G) rp (.int _)⟩
  · cases e⟩
def gAbs : List PyData → R PyData
  | [.int i] => .ok (.int (if i < 0 then -i else i))
  | _ => .bad
theorem cd_abs : CallD X (.builtin "abs") gAbs := ⟨_, call_abs, fun fm G H σ ρ vs ds d Q rp hva e k => by
  unfold gAbs at e
  split at e
  · cases e
    obtain ⟨v, rfl, hv⟩ := vwall1 hva
    exact ⟨_, by rw [hv.int], k _ G H (Ex.refl G) rp (.int _)⟩
  · cases e⟩
def intsOf : List PyData → Option (List Int)
  | [] => some []
  | .int i :: r => (intsOf r).map (i :: ·)
  | _ => none
def boolsOf : List PyData → Option (List Bool)
  | [] => some []
  | .bool i :: r => (boolsOf r).map (i :: ·)
  | _ => none
theorem dpa_ints {K : PySem.W.Frag} {H : Hp} : ∀ {vs : List V} {ds : List PyData} {ns : List Int}, DpAll K H vs ds → intsOf ds = some ns → vs = ns.map V.int
  | _, _, _, .nil, e => by
    cases e
    rfl
  | _, _, ns, .cons (d := d) (ds := ds) h a, e => by
    cases d with
    | int i =>
      unfold intsOf at e
      cases q : intsOf ds with
      | none =>
        rw [q] at e
        cases e
      | some ms =>
        rw [q] at e
        cases e
        cases h
        rw [dpa_ints a q]
        rfl
    | _ => cases e
theorem dpa_bools {K : PySem.W.Frag} {H : Hp} : ∀ {vs : List V} {ds : List PyData} {ns : List Bool}, DpAll K H vs ds → boolsOf ds = some ns → vs = ns.map V.bl
  | _, _, _, .nil, e => by
    cases e
    rfl
  | _, _, ns, .cons (d := d) (ds := ds) h a, e => by
    cases d with
    | bool i =>
      unfold boolsOf at e
      cases q : boolsOf ds with
      | none =>
        rw [q] at e
        cases e
      | some ms =>
        rw [q] at e
        cases e
        cases h
        rw [dpa_bools a q]
        rfl
    | _ => cases e
def gInts (f : List Int → R PyData) : List PyData → R PyData
  | [.list xs] => match intsOf xs with
    | some ns => f ns
    | none => .bad
  | _ => .bad
def gBools (f : List Bool → R PyData) : List PyData → R PyData
  | [.list xs] => match boolsOf xs with
    | some ns => f ns
    | none => .bad
  | _ => .bad
theorem gints_of {f : List Int → R PyData} {ds : List PyData} {d : PyData} (e : gInts f ds = .ok d) : ∃ xs ns, ds = [.list xs] ∧ intsOf xs = some ns ∧ f ns = .ok d := by
  unfold gInts at e
  split at e
  · rename_i xs
    cases q : intsOf xs with
    | none =>
      rw [q] at e
      cases e
    | some ns =>
      rw [q] at e
      exact ⟨xs, ns, rfl, q, e⟩
  · cases e
theorem gbools_of {f : List Bool → R PyData} {ds : List PyData} {d : PyData} (e : gBools f ds = .ok d) : ∃ xs ns, ds = [.list xs] ∧ boolsOf xs = some ns ∧ f ns = .ok d := by
  unfold gBools at e
  split at e
  · rename_i xs
    cases q : boolsOf xs with
    | none =>
      rw [q] at e
      cases e
    | some ns =>
      rw [q] at e
      exact ⟨xs, ns, rfl, q, e⟩
  · cases e
def gSum : List PyData → R PyData := gInts fun ns => .ok (.int ns.sum)
def gAll : List PyData → R PyData := gBools fun bs => .ok (.bool (bs.all fun b => b))
def gAny : List PyData → R PyData := gBools fun bs => .ok (.bool (bs.any fun b => b))
def leastI : Int → List Int → Int
  | m, [] => m
  | m, x :: r => leastI (if x < m then x else m) r
def mostI : Int → List Int → Int
  | m, [] => m
  | m, x :: r => mostI (if m < x then x else m) r
theorem leastI_mem : ∀ (r : List Int) (m : Int), leastI m r ∈ m :: r
  | [], m => List.mem_cons_self
  | x :: r, m => by
    have h := leastI_mem r (if x < m then x else m)
    unfold leastI
    rcases List.mem_cons.mp h with h | h
    · rw [h]
      split
      · exact List.mem_cons_of_mem _ List.mem_cons_self
      · exact List.mem_cons_self
    · exact List.mem_cons_of_mem _ (List.mem_cons_of_mem _ h)
theorem leastI_le : ∀ (r : List Int) (m y : Int), y ∈ m :: r → leastI m r ≤ y
  | [], m, y, h => by
    rcases List.mem_cons.mp h with h | h
    · rw [h]
      exact Int.le_refl m
    · cases h
  | x :: r, m, y, h => by
    unfold leastI
    rcases List.mem_cons.mp h with h | h
    · refine Int.le_trans (leastI_le r _ (if x < m then x else m) List.mem_cons_self) ?_
      rw [h]
      split <;> omega
    · rcases List.mem_cons.mp h with h | h
      · refine Int.le_trans (leastI_le r _ (if x < m then x else m) List.mem_cons_self) ?_
        rw [h]
        split <;> omega
      · exact leastI_le r _ y (List.mem_cons_of_mem _ h)
theorem mostI_mem : ∀ (r : List Int) (m : Int), mostI m r ∈ m :: r
  | [], m => List.mem_cons_self
  | x :: r, m => by
    have h := mostI_mem r (if m < x then x else m)
    unfold mostI
    rcases List.mem_cons.mp h with h | h
    · rw [h]
      split
      · exact List.mem_cons_of_mem _ List.mem_cons_self
      · exact List.mem_cons_self
    · exact List.mem_cons_of_mem _ (List.mem_cons_of_mem _ h)
theorem mostI_le : ∀ (r : List Int) (m y : Int), y ∈ m :: r → y ≤ mostI m r
  | [], m, y, h => by
    rcases List.mem_cons.mp h with h | h
    · rw [h]
      exact Int.le_refl m
    · cases h
  | x :: r, m, y, h => by
    unfold mostI
    rcases List.mem_cons.mp h with h | h
    · refine Int.le_trans ?_ (mostI_le r _ (if m < x then x else m) List.mem_cons_self)
      rw [h]
      split <;> omega
    · rcases List.mem_cons.mp h with h | h
      · refine Int.le_trans ?_ (mostI_le r _ (if m < x then x else m) List.mem_cons_self)
        rw [h]
        split <;> omega
      · exact mostI_le r _ y (List.mem_cons_of_mem _ h)
def gMin : List PyData → R PyData
  | [.int i, .int j] => .ok (.int (if j < i then j else i))
  | ds => gInts (fun ns => match ns with
    | [] => .bad
    | m :: r => .ok (.int (leastI m r))) ds
def gMax : List PyData → R PyData
  | [.int i, .int j] => .ok (.int (if j > i then j else i))
  | ds => gInts (fun ns => match ns with
    | [] => .bad
    | m :: r => .ok (.int (mostI m r))) ds
variable (c : Cxo X)
include c
theorem cd_sum : CallD X (.builtin "sum") gSum := ⟨_, cr_sum c.calm, fun fm G H σ ρ vs ds d Q rp hva e k => by
  obtain ⟨xs, ns, rfl, q, e⟩ := gints_of e
  cases e
  obtain ⟨v, rfl, hv⟩ := vwall1 hva
  obtain ⟨p, us, rfl, hs, da⟩ := hv.lst rp.gh
  rw [dpa_ints da q] at hs
  exact ⟨p, ns, rfl, hs, k _ G H (Ex.refl G) rp (.int _)⟩⟩
theorem cd_all : CallD X (.builtin "all") gAll := ⟨_, cr_all c.calm, fun fm G H σ ρ vs ds d Q rp hva e k => by
  obtain ⟨xs, ns, rfl, q, e⟩ := gbools_of e
  cases e
  obtain ⟨v, rfl, hv⟩ := vwall1 hva
  obtain ⟨p, us, rfl, hs, da⟩ := hv.lst rp.gh
  rw [dpa_bools da q] at hs
  exact ⟨p, ns, rfl, hs, k _ G H (Ex.refl G) rp (.bl _)⟩⟩
theorem cd_any : CallD X (.builtin "any") gAny := ⟨_, cr_any c.calm, fun fm G H σ ρ vs ds d Q rp hva e k => by
  obtain ⟨xs, ns, rfl, q, e⟩ := gbools_of e
  cases e
  obtain ⟨v, rfl, hv⟩ := vwall1 hva
  obtain ⟨p, us, rfl, hs, da⟩ := hv.lst rp.gh
  rw [dpa_bools da q] at hs
  exact ⟨p, ns, rfl, hs, k _ G H (Ex.refl G) rp (.bl _)⟩⟩
theorem cd_min : CallD X (.builtin "min") gMin := ⟨_, (call_min2 c.calm).or (cr_min c.calm), fun fm G H σ ρ vs ds d Q rp hva e k => by
  unfold gMin at e
  split at e
  · cases e
    obtain ⟨v, w, rfl, hv, hw⟩ := vwall2 hva
    exact .inl ⟨_, _, by rw [hv.int, hw.int], k _ G H (Ex.refl G) rp (.int _)⟩
  · obtain ⟨xs, ns, rfl, q, e⟩ := gints_of e
    cases ns with
    | nil => cases e
    | cons m r =>
      cases e
      obtain ⟨v, rfl, hv⟩ := vwall1 hva
      obtain ⟨p, us, rfl, hs, da⟩ := hv.lst rp.gh
      rw [dpa_ints da q] at hs
      refine .inr ⟨p, m :: r, rfl, hs, Nat.zero_lt_succ _, fun z hz hl => ?_⟩
      have e : z = leastI m r := Int.le_antisymm (hl _ (leastI_mem r m)) (leastI_le r m z hz)
      rw [e]
      exact k _ G H (Ex.refl G) rp (.int _)⟩
theorem cd_max : CallD X (.builtin "max") gMax := ⟨_, (call_max2 c.calm).or (cr_max c.calm), fun fm G H σ ρ vs ds d Q rp hva e k => by
  unfold gMax at e
  split at e
  · cases e
    obtain ⟨v, w, rfl, hv, hw⟩ := vwall2 hva
    exact .inl ⟨_, _, by rw [hv.int, hw.int], k _ G H (Ex.refl G) rp (.int _)⟩
  · obtain ⟨xs, ns, rfl, q, e⟩ := gints_of e
    cases ns with
    | nil => cases e
    | cons m r =>
      cases e
      obtain ⟨v, rfl, hv⟩ := vwall1 hva
      obtain ⟨p, us, rfl, hs, da⟩ := hv.lst rp.gh
      rw [dpa_ints da q] at hs
      refine .inr ⟨p, m :: r, rfl, hs, Nat.zero_lt_succ _, fun z hz hl => ?_⟩
      have e : z = mostI m r := Int.le_antisymm (mostI_le r m z hz) (hl _ (mostI_mem r m))
      rw [e]
      exact k _ G H (Ex.refl G) rp (.int _)⟩
end

/-! ### isinstance -/
def tyNm : PyData → String
  | .none => "NoneType"
  | .bool _ => "bool"
  | .int _ => "int"
  | .str _ => "str"
  | .list _ => "list"
  | .tuple _ => "tuple"
  | .dict _ => "dict"
theorem tyx_of {K : PySem.W.Frag} {H : Hp} {v : V} {d : PyData} (h : Dp K H v d) : TyX K H v (.type (tyNm d)) := by
  cases h with
  | non => exact .base .non
  | bl b => exact .base (.bl b)
  | int i => exact .base (.int i)
  | str x => exact .base (.str x)
  | lst hs _ =>
    rcases hs with (h | ⟨o, h⟩) | ⟨o, its, n, h1, h2, _⟩
    · exact .base (.lst h)
    · exact .base (.frz h)
    · exact .kList h1 h2
  | tup hs _ =>
    rcases hs with (h | ⟨o, h⟩) | ⟨o, its, n, h1, h2, _⟩
    · exact .base (.tup h)
    · exact .fTuple h
    · exact .kTuple h1 h2
/-- the answers: bool is an int, too -/
def instB (a b : String) : Bool := a == b || (a == "bool" && b == "int")
@[simp] def ofKinds (ks : List String) (m : M Hd) : M Hd := fun ρ => (m ρ).bind fun p => (rs p.1 p.2).bind fun d => .ok (.dat (.bool (ks.any fun k => instB (tyNm d) k)), p.2)
def kindsOk : List String := ["int", "bool", "str", "list", "tuple", "dict"]
theorem kit_all : ∀ a ∈ ["NoneType", "bool", "int", "str", "list", "tuple", "dict"], ∀ b ∈ kindsOk, kitB a b = some (instB a b) := by decide +kernel
theorem tyNm_mem (d : PyData) : tyNm d ∈ ["NoneType", "bool", "int", "str", "list", "tuple", "dict"] := by
  cases d <;> simp [tyNm]
theorem kit_any {K : PySem.W.Frag} {a : String} (ha : a ∈ ["NoneType", "bool", "int", "str", "list", "tuple", "dict"]) : ∀ {bs : List String}, (∀ b ∈ bs, b ∈ kindsOk) → PySem.W.kitAny K (.type a) (bs.map Value.type) = some (bs.any fun k => instB a k)
  | [], _ => kitAny_nil
  | b :: bs, h => by
    have h1 := kit_all a ha b (h b List.mem_cons_self)
    refine kitAny_cons (kit_ty h1) (fun hb => ?_) (fun hb => ?_)
    · rw [List.any_cons, hb, Bool.false_or]
      exact kit_any ha fun b hb => h b (List.mem_cons_of_mem _ hb)
    · rw [List.any_cons, hb, Bool.true_or]
section
variable {X : Cx} {x T : Str} {p p2 pos : Pos} {e : Expr} {m : M Hd}
theorem se_isi {t : String} (hm : X.mg "isinstance" = none) (hT : X.mg T = none) (hv : bootBuiltins T = some (.type t)) (hk : t ∈ kindsOk) (he : PE X e (TM X.tri m)) (hg : Gl X "isinstance" := by rfl) (hgT : Gl X T := by rfl) (hn : T ≠ "__name__" := by decide) (hdb : (T == ("__debug__" : Str)) = false := by rfl)
    (hs : starEach [e, .Name T p2] X.env = (false, eval e X.env) :: starEach [.Name T p2] X.env := by rfl) (hs2 : starEach [.Name T p2] X.env = (false, eval (.Name T p2) X.env) :: starEach [] X.env := by rfl) (hpl : (backTo pos (starEach [.Name T p2] X.env)).any (·.1) = false := by rfl) :
    PE X (.Call (.Name "isinstance" p) [e, .Name T p2] [] pos) (TM X.tri (ofKinds [t] m)) :=
  pe_imp (pe_callB call_isi hg hm (by decide +kernel) (pa_cons he (pa_cons (pe_bltn (v := V.ty t) hgT hT hv rfl hn hdb) pa_nil hs2) hs) (by decide) (by rfl) hs hpl) fun σ H Q ⟨fm, G, ρ, h, ρ', rp, e, k⟩ => by
    obtain ⟨⟨h1, ρ1⟩, e1, e⟩ := R.of_bind e
    obtain ⟨d1, e2, e⟩ := R.of_bind e
    cases e
    refine ⟨fm, G, ρ, h1, ρ1, rp, e1, fun v G1 H1 x1 rp1 hv => ?_⟩
    have q := rs_vw rp1 hv e2
    have hkit := kit_all _ (tyNm_mem d1) t hk
    refine ⟨v, .ty t, _, _, _, rfl, .ty t, tyx_of (q.dp rp1.gh), kit_ty hkit, ?_⟩
    have := k (.bl (instB (tyNm d1) t)) G1 H1 x1 rp1
    simp only [List.any_cons, List.any_nil, Bool.or_false] at this
    exact this (.bl _)
theorem se_isiT {T1 T2 : Str} {p3 p4 : Pos} {kk : Nat} {t1 t2 : String} (hm : X.mg "isinstance" = none) (hT1 : X.mg T1 = none) (hT2 : X.mg T2 = none) (hv1 : bootBuiltins T1 = some (.type t1)) (hv2 : bootBuiltins T2 = some (.type t2)) (hk1 : t1 ∈ kindsOk) (hk2 : t2 ∈ kindsOk) (he : PE X e (TM X.tri m))
    (hg : Gl X "isinstance" := by rfl) (hgT1 : Gl X T1 := by rfl) (hgT2 : Gl X T2 := by rfl) (hn1 : T1 ≠ "__name__" := by decide) (hdb1 : (T1 == ("__debug__" : Str)) = false := by rfl) (hn2 : T2 ≠ "__name__" := by decide) (hdb2 : (T2 == ("__debug__" : Str)) = false := by rfl)
    (hs : starEach [e, .Tuple [.Name T1 p2, .Name T2 p3] kk p4] X.env = (false, eval e X.env) :: starEach [.Tuple [.Name T1 p2, .Name T2 p3] kk p4] X.env := by rfl)
    (hs2 : starEach [.Tuple [.Name T1 p2, .Name T2 p3] kk p4] X.env = (false, eval (.Tuple [.Name T1 p2, .Name T2 p3] kk p4) X.env) :: starEach [] X.env := by rfl)
    (hs3 : starEach [.Name T1 p2, .Name T2 p3] X.env = (false, eval (.Name T1 p2) X.env) :: starEach [.Name T2 p3] X.env := by rfl) (hs4 : starEach [.Name T2 p3] X.env = (false, eval (.Name T2 p3) X.env) :: starEach [] X.env := by rfl)
    (hpl : (backTo pos (starEach [.Tuple [.Name T1 p2, .Name T2 p3] kk p4] X.env)).any (·.1) = false := by rfl) :
    PE X (.Call (.Name "isinstance" p) [e, .Tuple [.Name T1 p2, .Name T2 p3] kk p4] [] pos) (TM X.tri (ofKinds [t1, t2] m)) :=
  pe_imp (pe_callB call_isiT hg hm (by decide +kernel) (pa_cons he (pa_cons (pe_tup (pa_cons (pe_bltn (v := V.ty t1) hgT1 hT1 hv1 rfl hn1 hdb1) (pa_cons (pe_bltn (v := V.ty t2) hgT2 hT2 hv2 rfl hn2 hdb2) pa_nil hs4) hs3)) pa_nil hs2) hs) (by decide) (by rfl) hs hpl) fun σ H Q ⟨fm, G, ρ, h, ρ', rp, e, k⟩ => by
    obtain ⟨⟨h1, ρ1⟩, e1, e⟩ := R.of_bind e
    obtain ⟨d1, e2, e⟩ := R.of_bind e
    cases e
    refine ⟨fm, G, ρ, h1, ρ1, rp, e1, fun v G1 H1 x1 rp1 hv => ⟨big_le (Nat.le_of_lt_succ (show 2 < big + 1 by decide)), fun tp htp => ?_⟩⟩
    have q := rs_vw rp1 hv e2
    have gp : G1 tp = none := fresh_back rp1.gh htp
    refine ⟨v, tp, _, _, [.type t1, .type t2], _, rfl, upd_same, .cons (.ty t1) (.cons (.ty t2) .nil), tyx_of (dp_mono (Ex.new htp) (q.dp rp1.gh)), ?_, k _ _ _ (x1.trans (Ex.new gp)) (rp1.gnew htp) (.bl _)⟩
    exact kit_any (bs := [t1, t2]) (tyNm_mem d1) fun b hb => by
      rcases List.mem_cons.mp hb with rfl | hb
      · exact hk1
      · rcases List.mem_cons.mp hb with rfl | hb
        · exact hk2
        · cases hb
end
end FM
/-! statements, targets, loops -/
namespace FM
open PySem PySem.Spec PyProof.Rows L2 Evl

/-- how a statement ends -/
inductive Fl where
  | nx | bk | ct
  | rt (d : PyData)
  | rl (xs : List PyData)
abbrev MS := Ro → R (Fl × Ro)
def FlOk (K : Tri) (fm : Fm) (D : Ends) (G H : Hp) (σ : L2.St) (ρ : Ro) : Fl → Prop
  | .nx => D.nx σ H
  | .bk => D.bk σ H
  | .ct => D.ct σ H
  | .rt d => ∀ v, Dp K.K G v d → D.rt v H
  | .rl xs => ∀ v, NewL K fm G H σ ρ v xs → D.rt v H
def TS' (K : Tri) (m : MS) : TS := fun D σ H => ∃ fm G ρ f ρ', Rp K fm G H σ ρ ∧ m ρ = .ok (f, ρ') ∧ ∀ G' H' σ', Ex G G' → Rp K fm G' H' σ' ρ' → FlOk K fm D G' H' σ' ρ' f
@[simp] def notPin (ρ : Ro) (i : Nat) : Bool := match ρ[i]? with
  | none => false
  | some none => true
  | some (some (.fz _)) => true
  | some (some (.ob .own _)) => true
  | some (some (.ob _ _)) => false
theorem notPin_ok {ρ : Ro} {i : Nat} (h : notPin ρ i = true) : i < ρ.length ∧ ∀ sv : Sv, ρ[i]? = some (some sv) → ¬ Sv.pinned sv := by
  unfold notPin at h
  cases q : ρ[i]? with
  | none =>
    rw [q] at h
    cases h
  | some o =>
    refine ⟨(List.getElem?_eq_some_iff.mp q).1, fun sv e z => ?_⟩
    cases e
    rw [q] at h
    cases sv with
    | fz d => exact z
    | ob k c =>
      cases k with
      | own => exact z
      | rf => cases h
      | lent => cases h

/-! ### targets -/
/-- σ' is σ but for the slots is -/
def But (is : List Nat) (σ σ' : L2.St) : Prop := σ'.length = σ.length ∧ ∀ j, j ∉ is → σ'[j]? = σ[j]?
theorem But.refl (is : List Nat) (σ : L2.St) : But is σ σ := ⟨rfl, fun _ _ => rfl⟩
theorem But.set {i : Nat} {σ : L2.St} {o : Option V} : But [i] σ (σ.set i o) := ⟨List.length_set, fun j hj => List.getElem?_set_ne (fun e => hj (by rw [e]; exact List.mem_cons_self))⟩
theorem But.trans {is js : List Nat} {σ σ' σ2 : L2.St} (a : But is σ σ') (b : But js σ' σ2) : But (is ++ js) σ σ2 := ⟨b.1.trans a.1, fun j hj => (b.2 j fun z => hj (List.mem_append_right _ z)).trans (a.2 j fun z => hj (List.mem_append_left _ z))⟩
def TG' (K : Tri) (is : List Nat) (g : PyData → Ro → R Ro) : TG := fun v σ H Q => ∃ fm G ρ d ρ', Rp K fm G H σ ρ ∧ Dp K.K G v d ∧ g d ρ = .ok ρ' ∧ ∀ σ', Rp K fm G H σ' ρ' → But is σ σ' → Q σ' H
def TGs' (K : Tri) (is : List Nat) (g : List PyData → Ro → R Ro) : TGs := fun vs σ H Q => ∃ fm G ρ ds ρ', Rp K fm G H σ ρ ∧ DpAll K.K G vs ds ∧ g ds ρ = .ok ρ' ∧ ∀ σ', Rp K fm G H σ' ρ' → But is σ σ' → Q σ' H
@[simp] def gN (i : Nat) (d : PyData) (ρ : Ro) : R Ro := chk (notPin ρ i = true) (.ok (ρ.set i (some (.fz d))))
@[simp] def gsN (ds : List PyData) (ρ : Ro) : R Ro := match ds with
  | [] => .ok ρ
  | _ => .bad
@[simp] def gsC (g : PyData → Ro → R Ro) (gs : List PyData → Ro → R Ro) (ds : List PyData) (ρ : Ro) : R Ro := match ds with
  | d :: r => (g d ρ).bind fun ρ1 => gs r ρ1
  | [] => .bad
@[simp] def gT (n : Nat) (gs : List PyData → Ro → R Ro) (d : PyData) (ρ : Ro) : R Ro := match d with
  | .tuple xs => chk (xs.length = n) (gs xs ρ)
  | .list xs => chk (xs.length = n) (gs xs ρ)
  | _ => .bad
theorem Rp.putD {K : Tri} {fm : Fm} {G H : Hp} {σ : L2.St} {ρ : Ro} (r : Rp K fm G H σ ρ) {i : Nat} {v : V} {d : PyData} (h : notPin ρ i = true) (hd : Dp K.K G v d) : Rp K fm G H (σ.set i (some v)) (ρ.set i (some (.fz d))) := by
  obtain ⟨h1, h2⟩ := notPin_ok h
  exact r.put h1 h2 fun sv e => by
    cases e
    exact ⟨hd, fun z => z.elim⟩
section
variable {X : Cx} {pos : Pos}
theorem sg_name {i : Nat} {x : Str} (hN : X.N.Nodup) (hi : X.N[i]? = some x := by rfl) (hx : Loc X.env.scope x := by first | exact Or.inl rfl | exact Or.inr rfl)
    (hf : X.fn x = true ∨ X.env.scope.names.lookup x = some .local := by first | exact Or.inl rfl | exact Or.inr rfl) : PG X (.Name x pos) (TG' X.tri [i] (gN i)) :=
  pg_imp (pg_name hN hi hx hf) fun v σ H Q ⟨fm, G, ρ, d, ρ', rp, hd, e, k⟩ => by
    obtain ⟨h, e⟩ := chk_ok e
    cases e
    exact k _ (rp.putD h hd) But.set
theorem sgs_nil : PGs X [] (TGs' X.tri [] gsN) := pgs_imp pgs_nil fun vs σ H Q ⟨fm, G, ρ, d, ρ', rp, hd, e, k⟩ => by
  cases hd with
  | nil =>
    cases e
    exact ⟨rfl, k _ rp (But.refl _ _)⟩
  | cons _ _ => cases e
theorem sgs_cons {e : Expr} {es : List Expr} {is js : List Nat} {g : PyData → Ro → R Ro} {gs : List PyData → Ro → R Ro} (h1 : PG X e (TG' X.tri is g)) (h2 : PGs X es (TGs' X.tri js gs))
    (hs : (assignEach (e :: es) X.env).map (·.2) = assign e X.env :: (assignEach es X.env).map (·.2) := by rfl) : PGs X (e :: es) (TGs' X.tri (is ++ js) (gsC g gs)) :=
  pgs_imp (pgs_cons h1 h2 hs) fun vs σ H Q ⟨fm, G, ρ, d, ρ', rp, hd, e, k⟩ => by
    cases hd with
    | nil => cases e
    | cons a b =>
      obtain ⟨ρ1, e1, e⟩ := R.of_bind e
      exact ⟨_, _, rfl, fm, G, ρ, _, ρ1, rp, a, e1, fun σ' rp' b1 => ⟨fm, G, ρ1, _, ρ', rp', b, e, fun σ2 rp2 b2 => k σ2 rp2 (b1.trans b2)⟩⟩
theorem sg_tup {es : List Expr} {kk : Nat} {is : List Nat} {gs : List PyData → Ro → R Ro} {n : Nat} (c : Cxo X) (h : PGs X es (TGs' X.tri is gs)) (hn : (assignEach es X.env).length = n := by rfl) (hst : (assignEach es X.env).findIdx? (·.1) = none := by rfl) : PG X (.Tuple es kk pos) (TG' X.tri is (gT n gs)) := by
  refine ⟨fun pins s σ H v u Q I r ⟨fm, G, ρ, d, ρ', rp, hd, e, k⟩ => ?_⟩
  cases d with
  | tuple xs =>
    obtain ⟨hz, e⟩ := chk_ok e
    cases hd with
    | tup hs da => exact (pg_tup c.calm h hn hst).run pins s σ H _ u Q I r ⟨_, _, rfl, ex_t rp.gh hs, (dpa_len da).trans hz, fm, G, ρ, _, ρ', rp, da, e, k⟩
  | list xs =>
    obtain ⟨hz, e⟩ := chk_ok e
    cases hd with
    | lst hs da => exact (pg_unl c.calm h hn hst).run pins s σ H _ u Q I r ⟨_, _, rfl, ex_l rp.gh hs, (dpa_len da).trans hz, fm, G, ρ, _, ρ', rp, da, e, k⟩
  | _ => cases e
end

/-! ### simple statements -/
@[simp] def mNext (ρ : Ro) : R (Fl × Ro) := .ok (.nx, ρ)
@[simp] def mSeq (m n : MS) (ρ : Ro) : R (Fl × Ro) := (m ρ).bind fun p => match p.1 with
  | .nx => n p.2
  | f => .ok (f, p.2)
@[simp] def mSet (i : Nat) (m : M Hd) (ρ : Ro) : R (Fl × Ro) := (m ρ).bind fun p => (fz p.1 p.2).bind fun q => chk (notPin q.2 i = true) (.ok (.nx, q.2.set i (some (.fz q.1))))
@[simp] def mSetL (i : Nat) (m : M (List PyData)) (ρ : Ro) : R (Fl × Ro) := (m ρ).bind fun p => chk (notPin p.2 i = true) (.ok (.nx, p.2.set i (some (.ls .own p.1))))
@[simp] def mAsg (g : PyData → Ro → R Ro) (m : M Hd) (ρ : Ro) : R (Fl × Ro) := (m ρ).bind fun p => (fz p.1 p.2).bind fun q => (g q.1 q.2).bind fun ρ' => .ok (.nx, ρ')
@[simp] def mDrop (m : M Hd) (ρ : Ro) : R (Fl × Ro) := (m ρ).bind fun p => .ok (.nx, p.2)
@[simp] def mRet (m : M Hd) (ρ : Ro) : R (Fl × Ro) := (m ρ).bind fun p => (fz p.1 p.2).bind fun q => .ok (.rt q.1, q.2)
@[simp] def mRetL (m : M (List PyData)) (ρ : Ro) : R (Fl × Ro) := (m ρ).bind fun p => .ok (.rl p.1, p.2)
@[simp] def mRetN (ρ : Ro) : R (Fl × Ro) := .ok (.rt .none, ρ)
@[simp] def mIfS (t : M Bool) (m n : MS) (ρ : Ro) : R (Fl × Ro) := (t ρ).bind fun p => if p.1 = true then m p.2 else n p.2
@[simp] def mBrk (ρ : Ro) : R (Fl × Ro) := .ok (.bk, ρ)
@[simp] def mCnt (ρ : Ro) : R (Fl × Ro) := .ok (.ct, ρ)
@[simp] def fzAt (i : Nat) (ρ : Ro) : R PyData := match ρ[i]? with
  | some (some (.fz a)) => .ok a
  | _ => .bad
theorem fzAt_ok {i : Nat} {ρ : Ro} {d : PyData} (e : fzAt i ρ = .ok d) : ρ[i]? = some (some (.fz d)) := by
  unfold fzAt at e
  split at e
  · cases e
    assumption
  · cases e
@[simp] def mAug (i : Nat) (f : PyData → PyData → R PyData) (m : M Hd) (ρ : Ro) : R (Fl × Ro) := (mVar i ρ).bind fun _ => (m ρ).bind fun p => (rs p.1 p.2).bind fun b => (fzAt i p.2).bind fun a => (f a b).bind fun d => chk (notPin p.2 i = true) (.ok (.nx, p.2.set i (some (.fz d))))
section
variable {X : Cx} {st : Stmt} {rest : List Stmt} {e : Expr} {pos : Pos} {m n : MS} {me : M Hd}
theorem ss_nil : PSs X [] (TS' X.tri mNext) := pss_imp pss_nil fun D σ H ⟨fm, G, ρ, f, ρ', rp, e, k⟩ => by
  cases e
  exact k G H σ (Ex.refl G) rp
theorem ss_cons (h1 : PS X st (TS' X.tri m)) (h2 : PSs X rest (TS' X.tri n)) : PSs X (st :: rest) (TS' X.tri (mSeq m n)) := pss_imp (pss_cons h1 h2) fun D σ H ⟨fm, G, ρ, f, ρ', rp, e, k⟩ => by
  obtain ⟨⟨f1, ρ1⟩, e1, e⟩ := R.of_bind e
  refine ⟨fm, G, ρ, f1, ρ1, rp, e1, fun G1 H1 σ1 x1 rp1 => ?_⟩
  cases f1 with
  | nx => exact ⟨fm, G1, ρ1, f, ρ', rp1, e, fun G2 H2 σ2 x2 rp2 => k G2 H2 σ2 (x1.trans x2) rp2⟩
  | bk =>
    cases e
    exact k G1 H1 σ1 x1 rp1
  | ct =>
    cases e
    exact k G1 H1 σ1 x1 rp1
  | rt d =>
    cases e
    exact k G1 H1 σ1 x1 rp1
  | rl d =>
    cases e
    exact k G1 H1 σ1 x1 rp1
theorem ss_one (h1 : PS X st (TS' X.tri m)) : PSs X [st] (TS' X.tri m) := pss_one h1
theorem set_to {te : TE} {i : Nat} (h : ∀ σ H Q, TM X.tri me σ H Q → te σ H Q) : ∀ D σ H, TS' X.tri (mSet i me) D σ H → tAsg te (gName i) D σ H := fun D σ H ⟨fm, G, ρ, f, ρ', rp, e, k⟩ => by
  obtain ⟨⟨h1, ρ1⟩, e1, e⟩ := R.of_bind e
  obtain ⟨⟨d, ρ2⟩, e2, e⟩ := R.of_bind e
  obtain ⟨hp, e⟩ := chk_ok e
  cases e
  refine h σ H _ ⟨fm, G, ρ, h1, ρ1, rp, e1, fun v G1 H1 x1 rp1 hv => ?_⟩
  obtain ⟨G2, x2, rp2, hd⟩ := fz_ok rp1 hv e2
  exact k G2 H1 _ (x1.trans x2) (rp2.putD hp hd)
theorem Rp.putL {K : Tri} {fm : Fm} {G H : Hp} {σ : L2.St} {ρ : Ro} (r : Rp K fm G H σ ρ) {i : Nat} {v : V} {xs : List PyData} (h : notPin ρ i = true) (hd : NewL K fm G H σ ρ v xs) : Rp K fm G H (σ.set i (some v)) (ρ.set i (some (.ls .own xs))) := by
  obtain ⟨h1, h2⟩ := notPin_ok h
  obtain ⟨p, vs, rfl, fp, lp, gp, hp, da, ow⟩ := hd
  exact r.put h1 h2 fun sv e => by
    cases e
    refine ⟨⟨p, _, rfl, gp, fp, lp, hp, trivial, vs, rfl, da⟩, fun _ j s2 a ea _ hj oj z => ?_⟩
    cases ea
    exact ow j s2 hj oj z
theorem setl_to {te : TE} {i : Nat} {ml : M (List PyData)} (h : ∀ σ H Q, TL X.tri ml σ H Q → te σ H Q) : ∀ D σ H, TS' X.tri (mSetL i ml) D σ H → tAsg te (gName i) D σ H := fun D σ H ⟨fm, G, ρ, f, ρ', rp, e, k⟩ => by
  obtain ⟨⟨xs, ρ1⟩, e1, e⟩ := R.of_bind e
  obtain ⟨hp, e⟩ := chk_ok e
  cases e
  refine h σ H _ ⟨fm, G, ρ, xs, ρ1, rp, e1, fun v G1 H1 x1 rp1 hv => ?_⟩
  exact k G1 H1 _ x1 (rp1.putL hp hv)
theorem ss_set {i : Nat} {x : Str} {pos' : Pos} (hN : X.N.Nodup) (he : PE X e (TM X.tri me)) (hi : X.N[i]? = some x := by rfl) (hx : Loc X.env.scope x := by first | exact Or.inl rfl | exact Or.inr rfl)
    (hs : swapsWith e (some (.Name x pos')) pos.line X.env = pure false := by rfl) (hf : X.fn x = true ∨ X.env.scope.names.lookup x = some .local := by first | exact Or.inl rfl | exact Or.inr rfl) : PS X (.Assign [.Name x pos'] e pos) (TS' X.tri (mSet i me)) :=
  ps_imp (ps_set hN hi hx he hs hf) (set_to fun _ _ _ z => z)
theorem ss_setL {i : Nat} {x : Str} {pos' : Pos} {ml : M (List PyData)} (hN : X.N.Nodup) (he : PE X e (TL X.tri ml)) (hi : X.N[i]? = some x := by rfl) (hx : Loc X.env.scope x := by first | exact Or.inl rfl | exact Or.inr rfl)
    (hs : swapsWith e (some (.Name x pos')) pos.line X.env = pure false := by rfl) (hf : X.fn x = true ∨ X.env.scope.names.lookup x = some .local := by first | exact Or.inl rfl | exact Or.inr rfl) : PS X (.Assign [.Name x pos'] e pos) (TS' X.tri (mSetL i ml)) :=
  ps_imp (ps_set hN hi hx he hs hf) (setl_to fun _ _ _ z => z)
theorem ss_asg {tg : Expr} {is : List Nat} {g : PyData → Ro → R Ro} (he : PE X e (TM X.tri me)) (hg : PG X tg (TG' X.tri is g)) (hs : swapsWithSole [tg] e pos.line X.env = pure false := by rfl) (hw : swappedStores [tg] e X.env = pure none := by rfl)
    (h1 : (assignEach [tg] X.env).map (·.2) = [assign tg X.env] := by rfl) : PS X (.Assign [tg] e pos) (TS' X.tri (mAsg g me)) := ps_imp (ps_asg he hg hs hw h1) fun D σ H ⟨fm, G, ρ, f, ρ', rp, e, k⟩ => by
  obtain ⟨⟨h1, ρ1⟩, e1, e⟩ := R.of_bind e
  obtain ⟨⟨d, ρ2⟩, e2, e⟩ := R.of_bind e
  obtain ⟨ρ3, e3, e⟩ := R.of_bind e
  cases e
  refine ⟨fm, G, ρ, h1, ρ1, rp, e1, fun v G1 H1 x1 rp1 hv => ?_⟩
  obtain ⟨G2, x2, rp2, hd⟩ := fz_ok rp1 hv e2
  exact ⟨fm, G2, ρ2, d, _, rp2, hd, e3, fun σ' rp3 _ => k G2 H1 σ' (x1.trans x2) rp3⟩
/-- a, b = x, y | a, b, c = x, y, z stored from the right -/
@[simp] def mPar (is : List Nat) (ms : M (List Hd)) (ρ : Ro) : R (Fl × Ro) := (ms ρ).bind fun p => (fzs p.1 p.2).bind fun q => match is, q.1 with
  | [i, j], [a, b] => (gN i a q.2).bind fun ρ1 => (gN j b ρ1).bind fun ρ2 => .ok (.nx, ρ2)
  | [i, j, l], [a, b, c] => (gN i a q.2).bind fun ρ1 => (gN j b ρ1).bind fun ρ2 => (gN l c ρ2).bind fun ρ3 => .ok (.nx, ρ3)
  | _, _ => .bad
theorem ss_par2 {i j : Nat} {x y : Str} {a b : Expr} {ms : M (List Hd)} {px py pt : Pos} {kt k2 pt2} (c : Cxo X) (hN : X.N.Nodup) (ha : PA X [a, b] (TAs X.tri ms)) (hi : X.N[i]? = some x := by rfl) (hj : X.N[j]? = some y := by rfl) (hij : i ≠ j := by decide)
    (hx : X.env.scope.names.lookup x = some .local := by rfl) (hy : X.env.scope.names.lookup y = some .local := by rfl)
    (hw : swappedStores [.Tuple [.Name x px, .Name y py] kt pt] (.Tuple [a, b] k2 pt2) X.env = pure (some [x, y]) := by rfl)
    (hs : swapsWithSole [.Tuple [.Name x px, .Name y py] kt pt] (.Tuple [a, b] k2 pt2) pos.line X.env = pure false := by rfl) :
    PS X (.Assign [.Tuple [.Name x px, .Name y py] kt pt] (.Tuple [a, b] k2 pt2) pos) (TS' X.tri (mPar [i, j] ms)) := ps_imp (ps_par c.calm hN hi hj hij hx hy ha hw hs) fun D σ H ⟨fm, G, ρ, f, ρ', rp, e, k⟩ => by
  obtain ⟨⟨hs, ρ1⟩, e1, e⟩ := R.of_bind e
  obtain ⟨⟨ds, ρ2⟩, e2, e⟩ := R.of_bind e
  refine ⟨fm, G, ρ, hs, ρ1, rp, e1, fun vs G1 H1 x1 rp1 hv => ?_⟩
  obtain ⟨G2, x2, rp2, da⟩ := fzs_ok rp1 hv e2
  match ds, e with
  | [d1, d2], e =>
    obtain ⟨ρ3, e3, e⟩ := R.of_bind e
    obtain ⟨ρ4, e4, e⟩ := R.of_bind e
    cases e
    obtain ⟨p3, e3⟩ := chk_ok e3
    cases e3
    obtain ⟨p4, e4⟩ := chk_ok e4
    cases e4
    cases da with
    | cons a1 t =>
      cases t with
      | cons a2 t =>
        cases t
        exact ⟨_, _, rfl, k G2 H1 _ (x1.trans x2) ((rp2.putD p3 a1).putD p4 a2)⟩
  | [], e => cases e
  | [_], e => cases e
  | _ :: _ :: _ :: _, e => cases e
theorem ss_par3 {i j l : Nat} {x y z : Str} {a b cc : Expr} {ms : M (List Hd)} {px py pz pt : Pos} {kt k2 pt2} (c : Cxo X) (hN : X.N.Nodup) (ha : PA X [a, b, cc] (TAs X.tri ms)) (hi : X.N[i]? = some x := by rfl) (hj : X.N[j]? = some y := by rfl) (hl : X.N[l]? = some z := by rfl) (hij : i ≠ j := by decide) (hil : i ≠ l := by decide) (hjl : j ≠ l := by decide)
    (hx : X.env.scope.names.lookup x = some .local := by rfl) (hy : X.env.scope.names.lookup y = some .local := by rfl) (hz : X.env.scope.names.lookup z = some .local := by rfl)
    (hw : swappedStores [.Tuple [.Name x px, .Name y py, .Name z pz] kt pt] (.Tuple [a, b, cc] k2 pt2) X.env = pure (some [x, y, z]) := by rfl)
    (hs : swapsWithSole [.Tuple [.Name x px, .Name y py, .Name z pz] kt pt] (.Tuple [a, b, cc] k2 pt2) pos.line X.env = pure false := by rfl) :
    PS X (.Assign [.Tuple [.Name x px, .Name y py, .Name z pz] kt pt] (.Tuple [a, b, cc] k2 pt2) pos) (TS' X.tri (mPar [i, j, l] ms)) := ps_imp (ps_par3 c.calm hN hi hj hl hij hil hjl hx hy hz ha hw hs) fun D σ H ⟨fm, G, ρ, f, ρ', rp, e, k⟩ => by
  obtain ⟨⟨hs, ρ1⟩, e1, e⟩ := R.of_bind e
  obtain ⟨⟨ds, ρ2⟩, e2, e⟩ := R.of_bind e
  refine ⟨fm, G, ρ, hs, ρ1, rp, e1, fun vs G1 H1 x1 rp1 hv => ?_⟩
  obtain ⟨G2, x2, rp2, da⟩ := fzs_ok rp1 hv e2
  match ds, e with
  | [d1, d2, d3], e =>
    obtain ⟨ρ3, e3, e⟩ := R.of_bind e
    obtain ⟨ρ4, e4, e⟩ := R.of_bind e
    obtain ⟨ρ5, e5, e⟩ := R.of_bind e
    cases e
    obtain ⟨p3, e3⟩ := chk_ok e3
    cases e3
    obtain ⟨p4, e4⟩ := chk_ok e4
    cases e4
    obtain ⟨p5, e5⟩ := chk_ok e5
    cases e5
    cases da with
    | cons a1 t =>
      cases t with
      | cons a2 t =>
        cases t with
        | cons a3 t =>
          cases t
          exact ⟨_, _, _, rfl, k G2 H1 _ (x1.trans x2) (((rp2.putD p3 a1).putD p4 a2).putD p5 a3)⟩
  | [], e => cases e
  | [_], e => cases e
  | [_, _], e => cases e
  | _ :: _ :: _ :: _ :: _, e => cases e
theorem ss_drop (he : PE X e (TM X.tri me)) (hs : swapsWith e none pos.line X.env = pure false := by rfl) : PS X (.Expr e pos) (TS' X.tri (mDrop me)) := ps_imp (ps_expr he hs) fun D σ H ⟨fm, G, ρ, f, ρ', rp, e, k⟩ => by
  obtain ⟨⟨h1, ρ1⟩, e1, e⟩ := R.of_bind e
  cases e
  exact ⟨fm, G, ρ, h1, ρ1, rp, e1, fun v G1 H1 x1 rp1 _ => k G1 H1 σ x1 rp1⟩
theorem ss_ret (he : PE X e (TM X.tri me)) : PS X (.Return (some e) pos) (TS' X.tri (mRet me)) := ps_imp (ps_ret he) fun D σ H ⟨fm, G, ρ, f, ρ', rp, e, k⟩ => by
  obtain ⟨⟨h1, ρ1⟩, e1, e⟩ := R.of_bind e
  obtain ⟨⟨d, ρ2⟩, e2, e⟩ := R.of_bind e
  cases e
  refine ⟨fm, G, ρ, h1, ρ1, rp, e1, fun v G1 H1 x1 rp1 hv => ?_⟩
  obtain ⟨G2, x2, rp2, hd⟩ := fz_ok rp1 hv e2
  exact k G2 H1 σ (x1.trans x2) rp2 v hd
theorem ss_retL {ml : M (List PyData)} (he : PE X e (TL X.tri ml)) : PS X (.Return (some e) pos) (TS' X.tri (mRetL ml)) := ps_imp (ps_ret he) fun D σ H ⟨fm, G, ρ, f, ρ', rp, e, k⟩ => by
  obtain ⟨⟨h1, ρ1⟩, e1, e⟩ := R.of_bind e
  cases e
  exact ⟨fm, G, ρ, h1, ρ1, rp, e1, fun v G1 H1 x1 rp1 hv => k G1 H1 σ x1 rp1 v hv⟩
theorem ss_retN : PS X (.Return none pos) (TS' X.tri mRetN) := ps_imp ps_retN fun D σ H ⟨fm, G, ρ, f, ρ', rp, e, k⟩ => by
  cases e
  exact k G H σ (Ex.refl G) rp .non .non
theorem ss_brk : PS X (.Break pos) (TS' X.tri mBrk) := ps_imp ps_break fun D σ H ⟨fm, G, ρ, f, ρ', rp, e, k⟩ => by
  cases e
  exact k G H σ (Ex.refl G) rp
theorem ss_cnt : PS X (.Continue pos) (TS' X.tri mCnt) := ps_imp ps_continue fun D σ H ⟨fm, G, ρ, f, ρ', rp, e, k⟩ => by
  cases e
  exact k G H σ (Ex.refl G) rp
theorem ss_pass : PS X (.Pass pos) (TS' X.tri mNext) := ps_imp ps_pass fun D σ H ⟨fm, G, ρ, f, ρ', rp, e, k⟩ => by
  cases e
  exact k G H σ (Ex.refl G) rp
theorem ss_if {c : Expr} {a b : List Stmt} {t : M Bool} (hc : PT X c (TB X.tri t)) (ha : PSs X a (TS' X.tri m)) (hb : PSs X b (TS' X.tri n)) : PS X (.If c a b pos) (TS' X.tri (mIfS t m n)) := ps_imp (ps_if hc ha hb) fun D σ H ⟨fm, G, ρ, f, ρ', rp, e, k⟩ => by
  obtain ⟨⟨b1, ρ1⟩, e1, e⟩ := R.of_bind e
  refine tb_bind rfl rp e1 fun G1 H1 x1 rp1 => ?_
  cases b1 with
  | true =>
    rw [if_pos rfl] at e ⊢
    exact ⟨fm, G1, ρ1, f, ρ', rp1, e, fun G2 H2 σ2 x2 rp2 => k G2 H2 σ2 (x1.trans x2) rp2⟩
  | false =>
    rw [if_neg Bool.false_ne_true] at e ⊢
    exact ⟨fm, G1, ρ1, f, ρ', rp1, e, fun G2 H2 σ2 x2 rp2 => k G2 H2 σ2 (x1.trans x2) rp2⟩
/-- code that is never reached by what is proved -/
@[simp] def mBad (_ : Ro) : R (Fl × Ro) := .bad
theorem ss_never : PS X st (TS' X.tri mBad) := ps_imp ps_never fun D σ H ⟨fm, G, ρ, f, ρ', rp, e, k⟩ => by cases e
/-- x op= e -/
def IpD (X : Cx) (op : Operator) (f : PyData → PyData → R PyData) : Prop := ∃ r : TIp, PIp X op r ∧
  ∀ fm G H σ ρ x y dx dy d Q, Rp X.tri fm G H σ ρ → Dp X.K G x dx → Vw X.tri G H y dy → f dx dy = .ok d → (∀ v G' H', Ex G G' → Rp X.tri fm G' H' σ ρ → Dp X.K G' v d → Q v H') → r x y H Q
theorem ip_addD : IpD X .Add dAddI := ⟨_, ip_add, fun fm G H σ ρ x y dx dy d Q rp hx vy e k => by
  unfold dAddI at e
  split at e
  · cases e
    cases hx
    exact ⟨_, _, rfl, vy.int, k _ G H (Ex.refl G) rp (.int _)⟩
  · cases e⟩
theorem ip_subD : IpD X .Sub dSub := ⟨_, ip_sub, fun fm G H σ ρ x y dx dy d Q rp hx vy e k => by
  unfold dSub at e
  split at e
  · cases e
    cases hx
    exact ⟨_, _, rfl, vy.int, k _ G H (Ex.refl G) rp (.int _)⟩
  · cases e⟩
theorem ss_aug {i : Nat} {x : Str} {op : Operator} {pos' : Pos} {f : PyData → PyData → R PyData} (hN : X.N.Nodup) (ho : IpD X op f) (he : PE X e (TM X.tri me)) (hi : X.N[i]? = some x := by rfl) (hx : Loc X.env.scope x := by first | exact Or.inl rfl | exact Or.inr rfl)
    (hf : X.fn x = true ∨ X.env.scope.names.lookup x = some .local := by first | exact Or.inl rfl | exact Or.inr rfl) : PS X (.AugAssign (.Name x pos') op e pos) (TS' X.tri (mAug i f me)) := by
  obtain ⟨r, o1, o2⟩ := ho
  refine ps_imp (ps_aug hN hi hx he o1 hf) fun D σ H ⟨fm, G, ρ, g, ρ', rp, e, k⟩ => ?_
  obtain ⟨⟨h0, ρ0⟩, e0, e⟩ := R.of_bind e
  obtain ⟨⟨h1, ρ1⟩, e1, e⟩ := R.of_bind e
  obtain ⟨b, e2, e⟩ := R.of_bind e
  obtain ⟨a, e3, e⟩ := R.of_bind e
  obtain ⟨d, e4, e⟩ := R.of_bind e
  obtain ⟨hp, e⟩ := chk_ok e
  cases e
  obtain ⟨_, _, sv, q0⟩ := slot_of e0
  obtain ⟨v, hv, _⟩ := rp.sl i sv q0
  refine ⟨v, hv, fm, G, ρ, h1, ρ1, rp, e1, fun y G1 H1 x1 rp1 hy => ?_⟩
  obtain ⟨w, hw, dw⟩ := rp1.sl i _ (fzAt_ok e3)
  have ew : v = w := by
    rw [hv] at hw
    injection hw with hw
    injection hw
  subst ew
  exact o2 fm G1 H1 σ ρ1 v y a b d _ rp1 dw (rs_vw rp1 hy e2) e4 fun z G2 H2 x2 rp2 hz => k G2 H2 _ (x1.trans x2) (rp2.putD hp hz)
end
end FM
/-! loops, what is walked, list methods, comprehensions -/
namespace FM
open PySem PySem.Spec PyProof.Rows L2 Evl

/-! ### while -/
def mWhile (c : M Bool) (b : MS) : Nat → MS
  | 0 => fun _ => .bad
  | n + 1 => fun ρ => (c ρ).bind fun p => if p.1 = true then (b p.2).bind fun q => match q.1 with
      | .nx => mWhile c b n q.2
      | .ct => mWhile c b n q.2
      | .bk => .ok (.nx, q.2)
      | f => .ok (f, q.2)
    else .ok (.nx, p.2)
section
variable {X : Cx} {pos : Pos}
theorem ss_while {c : Expr} {body : List Stmt} {tc : M Bool} {tb : MS} (n : Nat) (hp : PassesOwn (model X.prog X.w) X.A X.env X.xe) (hc : PT X c (TB X.tri tc)) (hb : PSs X body (TS' X.tri tb)) : PS X (.While c body [] pos) (TS' X.tri (mWhile tc tb n)) :=
  ps_imp (ps_while hp hc hb) fun D σ H h => by
    refine ⟨fun n σ H => TS' X.tri (mWhile tc tb n) D σ H, ⟨n, h⟩, fun n σ H ⟨fm, G, ρ, f, ρ', rp, e, k⟩ => ?_⟩
    cases n with
    | zero => cases e
    | succ n =>
      obtain ⟨⟨b1, ρ1⟩, e1, e⟩ := R.of_bind e
      refine tb_bind rfl rp e1 fun G1 H1 x1 rp1 => ?_
      cases b1 with
      | true =>
        rw [if_pos rfl] at e ⊢
        obtain ⟨⟨f1, ρ2⟩, e2, e⟩ := R.of_bind e
        refine ⟨fun σ' H' => TS' X.tri (mWhile tc tb n) D σ' H', fun σ' H' q => ⟨n, Nat.lt_succ_self n, q⟩, fm, G1, ρ1, f1, ρ2, rp1, e2, fun G2 H2 σ2 x2 rp2 => ?_⟩
        cases f1 with
        | nx => exact ⟨fm, G2, ρ2, f, ρ', rp2, e, fun G3 H3 σ3 x3 rp3 => k G3 H3 σ3 ((x1.trans x2).trans x3) rp3⟩
        | ct => exact ⟨fm, G2, ρ2, f, ρ', rp2, e, fun G3 H3 σ3 x3 rp3 => k G3 H3 σ3 ((x1.trans x2).trans x3) rp3⟩
        | bk =>
          cases e
          exact k G2 H2 σ2 (x1.trans x2) rp2
        | rt d =>
          cases e
          exact k G2 H2 σ2 (x1.trans x2) rp2
        | rl d =>
          cases e
          exact k G2 H2 σ2 (x1.trans x2) rp2
      | false =>
        rw [if_neg Bool.false_ne_true] at e ⊢
        cases e
        exact k G1 H1 σ x1 rp1
end

/-! ### what is walked -/
structure ItD (K : Tri) (fm : Fm) (G0 : Hp) (items : List PyData) (J : It) : Prop where
  go : ∀ (i : Nat) (G H : Hp) (σ : L2.St) (ρ : Ro) (fm' : Fm), Ex fm.L fm'.L → Ex G0 G → Rp K fm' G H σ ρ → i < items.length → J.go i H
  stop : ∀ (G H : Hp) (σ : L2.St) (ρ : Ro) (fm' : Fm), Ex fm.L fm'.L → Ex G0 G → Rp K fm' G H σ ρ → J.stop items.length H
  yld : ∀ (i : Nat) (G H : Hp) (σ : L2.St) (ρ : Ro) (fm' : Fm) (x : V) (H' : Hp), Ex fm.L fm'.L → Ex G0 G → Rp K fm' G H σ ρ → i < items.length → J.yld i H x H' → ∃ d G', items[i]? = some d ∧ Ex G G' ∧ Rp K fm' G' H' σ ρ ∧ Dp K.K G' x d
def TI' (K : Tri) (m : M (List PyData)) : TI := fun σ H R => ∃ fm G ρ items ρ', Rp K fm G H σ ρ ∧ m ρ = .ok (items, ρ') ∧ ∀ J G' H', Ex G G' → Rp K fm G' H' σ ρ' → ItD K fm G' items J → R J H'
theorem pi_imp {X : Cx} {tg e : Expr} {t t' : TI} (h : PI X tg e t) (k : ∀ σ H Q, t' σ H Q → t σ H Q) : PI X tg e t' := ⟨fun pins s σ H Q I q => h.run pins s σ H Q I (k σ H Q q)⟩
/-- a loop over data -/
def loopD (g : PyData → Ro → R Ro) (b : MS) : List PyData → MS
  | [] => fun ρ => .ok (.nx, ρ)
  | d :: ds => fun ρ => (g d ρ).bind fun ρ1 => (b ρ1).bind fun q => match q.1 with
    | .nx => loopD g b ds q.2
    | .ct => loopD g b ds q.2
    | .bk => .ok (.nx, q.2)
    | f => .ok (f, q.2)
@[simp] def mFor (mi : M (List PyData)) (g : PyData → Ro → R Ro) (b : MS) (ρ : Ro) : R (Fl × Ro) := (mi ρ).bind fun p => loopD g b p.1 p.2
section
variable {X : Cx} {pos : Pos}
theorem ss_for {tg iter : Expr} {body : List Stmt} {mi : M (List PyData)} {is : List Nat} {g : PyData → Ro → R Ro} {tb : MS} (c : Cxo X) (hp : PassesOwn (model X.prog X.w) X.A X.env X.xe) (hi : PI X tg iter (TI' X.tri mi)) (hg : PG X tg (TG' X.tri is g)) (hb : PSs X body (TS' X.tri tb))
    (hs : ∀ x, foldedSetIterable iter X.env x = pure x := by intro _; rfl) : PS X (.For tg iter body [] pos) (TS' X.tri (mFor mi g tb)) :=
  ps_imp (ps_for hp c.calm hi hg hb hs) fun D σ H ⟨fm, G, ρ, f, ρ', rp, e, k⟩ => by
    obtain ⟨⟨items, ρ1⟩, e1, e⟩ := R.of_bind e
    refine ⟨fm, G, ρ, items, ρ1, rp, e1, fun J G1 H1 x1 rp1 itd => ?_⟩
    refine ⟨fun i m σ H => m = items.length - i ∧ i ≤ items.length ∧ ∃ G2 ρ2, Ex G1 G2 ∧ Rp X.tri fm G2 H σ ρ2 ∧ loopD g tb (items.drop i) ρ2 = .ok (f, ρ'), ⟨items.length, by simp, Nat.zero_le _, G1, ρ1, Ex.refl G1, rp1, e⟩, ?_⟩
    rintro i m σ2 H2 ⟨rfl, hi, G2, ρ2, x2, rp2, e2⟩
    by_cases hlt : i < items.length
    · refine .inr ⟨itd.go i G2 H2 σ2 ρ2 fm (Ex.refl _) x2 rp2 hlt, fun σ' H' => ∃ G4 ρ4, Ex G1 G4 ∧ Rp X.tri fm G4 H' σ' ρ4 ∧ loopD g tb (items.drop (i + 1)) ρ4 = .ok (f, ρ'), fun σ' H' q => ⟨items.length - (i + 1), by omega, rfl, by omega, q⟩, fun x H3 y => ?_⟩
      obtain ⟨d, G3, hd, x3, rp3, dp3⟩ := itd.yld i G2 H2 σ2 ρ2 fm x H3 (Ex.refl _) x2 rp2 hlt y
      have hdr : items.drop i = d :: items.drop (i + 1) := by
        rw [List.drop_eq_getElem_cons hlt]
        congr 1
        rw [List.getElem?_eq_getElem hlt] at hd
        exact Option.some.inj hd
      rw [hdr] at e2
      obtain ⟨ρ3, e3, e2⟩ := R.of_bind e2
      obtain ⟨⟨f1, ρ4⟩, e4, e2⟩ := R.of_bind e2
      refine ⟨fm, G3, ρ2, d, ρ3, rp3, dp3, e3, fun σ' rp4 _ => ⟨fm, G3, ρ3, f1, ρ4, rp4, e4, fun G5 H5 σ5 x5 rp5 => ?_⟩⟩
      have xx := (x2.trans x3).trans x5
      cases f1 with
      | nx => exact ⟨G5, ρ4, xx, rp5, e2⟩
      | ct => exact ⟨G5, ρ4, xx, rp5, e2⟩
      | bk =>
        cases e2
        exact k G5 H5 σ5 (x1.trans xx) rp5
      | rt d =>
        cases e2
        exact k G5 H5 σ5 (x1.trans xx) rp5
      | rl d =>
        cases e2
        exact k G5 H5 σ5 (x1.trans xx) rp5
    · have ei : i = items.length := by omega
      subst ei
      rw [List.drop_length] at e2
      cases e2
      exact .inl ⟨itd.stop G2 H2 σ2 _ fm (Ex.refl _) x2 rp2, k G2 H2 σ2 (x1.trans x2) rp2⟩

/-! ### iterables -/
theorem itd_walk {K : Tri} {fm : Fm} {G0 : Hp} {items : List PyData} {J : It} {n : Nat} {Gd : Hp → Prop} {Y : Nat → Hp → V → Hp → Prop} (w : Walk J n Gd Y) (hn : n = items.length)
    (hG : ∀ (G H : Hp) (σ : L2.St) (ρ : Ro) (fm' : Fm), Ex fm.L fm'.L → Ex G0 G → Rp K fm' G H σ ρ → Gd H)
    (hY : ∀ (i : Nat) (G H : Hp) (σ : L2.St) (ρ : Ro) (fm' : Fm) (x : V) (H' : Hp), Ex fm.L fm'.L → Ex G0 G → Rp K fm' G H σ ρ → i < items.length → Y i H x H' → ∃ d G', items[i]? = some d ∧ Ex G G' ∧ Rp K fm' G' H' σ ρ ∧ Dp K.K G' x d) : ItD K fm G0 items J where
  go := fun i G H σ ρ fm' a b r hi => w.goes i H (by omega) (hG G H σ ρ fm' a b r)
  stop := fun G H σ ρ fm' a b r => by
    rw [← hn]
    exact w.stops H (hG G H σ ρ fm' a b r)
  yld := fun i G H σ ρ fm' x H' a b r hi y => hY i G H σ ρ fm' x H' a b r hi (w.yields i H x H' (by omega) (hG G H σ ρ fm' a b r) y)
/-- data that stays as it is: kept, or in the frame -/
def Stay (K : Tri) (fm : Fm) (G : Hp) (v : V) (d : PyData) : Prop := Dp K.K G v d ∨ ∃ a vs xs, v = .ref a ∧ d = .list xs ∧ fm.L a = some (.lst vs) ∧ DpAll K.K G vs xs
@[simp] def stay (h : Hd) (ρ : Ro) : R PyData := match h with
  | .dat d => .ok d
  | .slot i => match ρ[i]? with
    | some (some (.fz d)) => .ok d
    | some (some (.ob .lent (.ls xs))) => .ok (.list xs)
    | _ => .bad
theorem stay_ok {K : Tri} {fm : Fm} {G H : Hp} {σ : L2.St} {ρ : Ro} {v : V} {h : Hd} {d : PyData} (rp : Rp K fm G H σ ρ) (hv : RelH K G σ v h) (e : stay h ρ = .ok d) : Stay K fm G v d := by
  cases h with
  | dat d' =>
    cases e
    exact .inl hv
  | slot i =>
    dsimp only [stay] at e
    have hv : σ[i]? = some (some v) := hv
    split at e
    · rename_i d' q
      cases e
      obtain ⟨w, h1, h2⟩ := rp.sl i _ q
      have ew : v = w := by
        rw [hv] at h1
        injection h1 with h1
        injection h1
      subst ew
      exact .inl h2
    · rename_i xs q
      cases e
      obtain ⟨w, h1, h2⟩ := rp.sl i _ q
      have ew : v = w := by
        rw [hv] at h1
        injection h1 with h1
        injection h1
      subst ew
      obtain ⟨a, o, rfl, ga, fa, la, ha, _, vs, rfl, da⟩ := h2
      rw [if_pos rfl] at la
      exact .inr ⟨a, vs, xs, rfl, rfl, la, da⟩
    · cases e
theorem Stay.lst {K : Tri} {fm : Fm} {G : Hp} {v : V} {xs : List PyData} (h : Stay K fm G v (.list xs)) : ∃ a vs, v = .ref a ∧ DpAll K.K G vs xs ∧ ∀ (fm' : Fm) (G' H' : Hp) (σ : L2.St) (ρ : Ro), Ex fm.L fm'.L → Ex G G' → Rp K fm' G' H' σ ρ → SqL K.K H' a vs := by
  rcases h with h | ⟨a, vs, ys, rfl, e, fa, da⟩
  · cases h with
    | lst hs da => exact ⟨_, _, rfl, da, fun fm' G' H' σ ρ _ x r => ex_l (x.trans r.gh) hs⟩
  · cases e
    exact ⟨a, vs, rfl, da, fun fm' G' H' σ ρ x _ r => sq_of (r.lh a _ (x a _ fa))⟩
theorem Stay.tup {K : Tri} {fm : Fm} {G : Hp} {v : V} {xs : List PyData} (h : Stay K fm G v (.tuple xs)) : ∃ a vs, v = .ref a ∧ DpAll K.K G vs xs ∧ SqT K.K G a vs := by
  rcases h with h | ⟨a, vs, ys, rfl, e, fa, da⟩
  · cases h with
    | tup hs da => exact ⟨_, _, rfl, da, hs⟩
  · cases e
theorem Stay.str {K : Tri} {fm : Fm} {G : Hp} {v : V} {z : Str} (h : Stay K fm G v (.str z)) : v = .str z := by
  rcases h with h | ⟨a, vs, ys, rfl, e, fa, da⟩
  · cases h
    rfl
  · cases e
theorem Stay.int {K : Tri} {fm : Fm} {G : Hp} {v : V} {z : Int} (h : Stay K fm G v (.int z)) : v = .int z := by
  rcases h with h | ⟨a, vs, ys, rfl, e, fa, da⟩
  · cases h
    rfl
  · cases e
def signs (z : Str) : List PyData := z.cps.toList.map fun c => .str ⟨#[c]⟩
def itemsOf : PyData → R (List PyData)
  | .list xs => .ok xs
  | .tuple xs => .ok xs
  | .str z => .ok (signs z)
  | _ => .bad
@[simp] def mIt (m : M Hd) (ρ : Ro) : R (List PyData × Ro) := (m ρ).bind fun p => (stay p.1 p.2).bind fun d => (itemsOf d).bind fun xs => .ok (xs, p.2)
theorem itd_list {K : Tri} {fm : Fm} {G0 : Hp} {a : Addr} {vs : List V} {xs : List PyData} (da : DpAll K.K G0 vs xs) (hs : ∀ (fm' : Fm) (G' H' : Hp) (σ : L2.St) (ρ : Ro), Ex fm.L fm'.L → Ex G0 G' → Rp K fm' G' H' σ ρ → SqL K.K H' a vs) : ItD K fm G0 xs (Itl K.K a) :=
  itd_walk walk_list (dpa_len da) (fun G H σ ρ fm' x y r => hs fm' G H σ ρ x y r) fun i G H σ ρ fm' v H' x y r hi ⟨e, hv⟩ => by
    subst e
    obtain ⟨d, h1, h2⟩ := dpa_get da hv
    exact ⟨d, G, h1, Ex.refl G, r, dp_mono y h2⟩
theorem itd_tup {K : Tri} {fm : Fm} {G0 : Hp} {a : Addr} {vs : List V} {xs : List PyData} (da : DpAll K.K G0 vs xs) (hs : SqT K.K G0 a vs) : ItD K fm G0 xs (Itt K.K a) :=
  itd_walk walk_tup (dpa_len da) (fun G H σ ρ fm' x y r => ex_t (y.trans r.gh) hs) fun i G H σ ρ fm' v H' x y r hi ⟨e, hv⟩ => by
    subst e
    obtain ⟨d, h1, h2⟩ := dpa_get da hv
    exact ⟨d, G, h1, Ex.refl G, r, dp_mono y h2⟩
theorem itd_str {K : Tri} {fm : Fm} {G0 : Hp} {z : Str} : ItD K fm G0 (signs z) (Its z) :=
  itd_walk walk_str (by simp [signs]) (fun G H σ ρ fm' x y r => trivial) fun i G H σ ρ fm' v H' x y r hi ⟨e, c, hc, hv⟩ => by
    subst e
    subst hv
    refine ⟨_, G, ?_, Ex.refl G, r, .str ⟨#[c]⟩⟩
    unfold signs
    rw [List.getElem?_map, Array.getElem?_toList, hc]
    rfl
theorem si_it {tg e : Expr} {m : M Hd} (he : PE X e (TM X.tri m)) : PI X tg e (TI' X.tri (mIt m)) := by
  refine ⟨fun pins s σ H W I ⟨fm, G, ρ, items, ρ', rp, e, k⟩ => ?_⟩
  obtain ⟨⟨h1, ρ1⟩, e1, e⟩ := R.of_bind e
  obtain ⟨d, e2, e⟩ := R.of_bind e
  obtain ⟨xs, e3, e⟩ := R.of_bind e
  cases e
  cases d with
  | list ys =>
    cases e3
    refine (pi_list he).run pins s σ H W I ⟨fm, G, ρ, h1, ρ1, rp, e1, fun v G1 H1 x1 rp1 hv => ?_⟩
    obtain ⟨a, vs, rfl, da, hs⟩ := (stay_ok rp1 hv e2).lst
    exact ⟨a, rfl, ⟨vs, hs fm G1 H1 σ ρ1 (Ex.refl _) (Ex.refl _) rp1⟩, k _ G1 H1 x1 rp1 (itd_list da hs)⟩
  | tuple ys =>
    cases e3
    refine (pi_tup he).run pins s σ H W I ⟨fm, G, ρ, h1, ρ1, rp, e1, fun v G1 H1 x1 rp1 hv => ?_⟩
    obtain ⟨a, vs, rfl, da, hs⟩ := (stay_ok rp1 hv e2).tup
    exact ⟨a, rfl, ⟨vs, ex_t rp1.gh hs⟩, k _ G1 H1 x1 rp1 (itd_tup da hs)⟩
  | str z =>
    cases e3
    refine (pi_str he).run pins s σ H W I ⟨fm, G, ρ, h1, ρ1, rp, e1, fun v G1 H1 x1 rp1 hv => ?_⟩
    exact ⟨z, (stay_ok rp1 hv e2).str, k _ G1 H1 x1 rp1 itd_str⟩
  | _ => cases e3
def okRange (i : Int) : Bool := within 4611686018427387904 i
theorem okRange_iff {i : Int} : okRange i = true ↔ -(2 ^ 62) ≤ i ∧ i < 2 ^ 62 := by
  unfold okRange
  rw [within_iff]
  omega
def upFrom (lo : Int) (n : Nat) : List PyData := (List.range n).map fun (i : Nat) => .int (lo + (i : Int))
@[simp] def mRange1 (m : M Hd) (ρ : Ro) : R (List PyData × Ro) := (m ρ).bind fun p => (rs p.1 p.2).bind fun d => match d with
  | .int j => chk (okRange j = true) (.ok (upFrom 0 j.toNat, p.2))
  | _ => .bad
@[simp] def mRange2 (m n : M Hd) (ρ : Ro) : R (List PyData × Ro) := (m ρ).bind fun p => (n p.2).bind fun q => (rs p.1 q.2).bind fun d => (rs q.1 q.2).bind fun d2 => match d, d2 with
  | .int i, .int j => chk ((okRange i && okRange j) = true) (.ok (upFrom i (j - i).toNat, q.2))
  | _, _ => .bad
theorem itd_range {K : Tri} {fm : Fm} {G0 : Hp} {lo : Int} {n : Nat} : ItD K fm G0 (upFrom lo n) (Itr lo n) :=
  itd_walk walk_range (by simp [upFrom]) (fun G H σ ρ fm' x y r => trivial) fun i G H σ ρ fm' v H' x y r hi ⟨e, hv⟩ => by
    subst e
    subst hv
    refine ⟨_, G, ?_, Ex.refl G, r, .int (lo + i)⟩
    have hi' : i < n := by simpa [upFrom] using hi
    unfold upFrom
    rw [List.getElem?_map, List.getElem?_range hi']
    rfl
theorem si_range1 {tg a : Expr} {m : M Hd} {p pos : Pos} (hm : X.mg "range" = none) (ha : PE X a (TM X.tri m)) (hg : Gl X "range" := by rfl) (hs : starEach [a] X.env = [(false, eval a X.env)] := by rfl) : PI X tg (.Call (.Name "range" p) [a] [] pos) (TI' X.tri (mRange1 m)) :=
  pi_imp (pi_range1 hg hm (pa_cons ha pa_nil hs) hs) fun σ H W ⟨fm, G, ρ, items, ρ', rp, e, k⟩ => by
    obtain ⟨⟨h1, ρ1⟩, e1, e⟩ := R.of_bind e
    obtain ⟨d, e2, e⟩ := R.of_bind e
    refine ⟨fm, G, ρ, h1, ρ1, rp, e1, fun v G1 H1 x1 rp1 hv => ?_⟩
    have va := rs_vw rp1 hv e2
    cases d with
    | int j =>
      obtain ⟨h1, e⟩ := chk_ok e
      cases e
      have h2 := okRange_iff.mp h1
      exact ⟨j, by rw [va.int], h2.1, h2.2, k _ G1 H1 x1 rp1 itd_range⟩
    | _ => cases e
theorem si_range2 {tg a b : Expr} {m n : M Hd} {p pos : Pos} (hm : X.mg "range" = none) (ha : PE X a (TM X.tri m)) (hb : PE X b (TM X.tri n)) (hg : Gl X "range" := by rfl) (hs : starEach [a, b] X.env = [(false, eval a X.env), (false, eval b X.env)] := by rfl) (hs2 : starEach [b] X.env = [(false, eval b X.env)] := by rfl) :
    PI X tg (.Call (.Name "range" p) [a, b] [] pos) (TI' X.tri (mRange2 m n)) :=
  pi_imp (pi_range2 hg hm (pa_cons ha (pa_cons hb pa_nil hs2) (hs.trans (by rw [hs2]))) hs hs2) fun σ H W ⟨fm, G, ρ, items, ρ', rp, e, k⟩ => by
    obtain ⟨⟨h1, ρ1⟩, e1, e⟩ := R.of_bind e
    obtain ⟨⟨h2, ρ2⟩, e2, e⟩ := R.of_bind e
    obtain ⟨d, e3, e⟩ := R.of_bind e
    obtain ⟨d2, e4, e⟩ := R.of_bind e
    refine ⟨fm, G, ρ, h1, ρ1, rp, e1, fun v G1 H1 x1 rp1 hv => ⟨fm, G1, ρ1, h2, ρ2, rp1, e2, fun w G2 H2 x2 rp2 hw => ?_⟩⟩
    have va := rs_vw rp2 (relh_mono x2 hv) e3
    have vb := rs_vw rp2 hw e4
    cases d with
    | int i =>
      cases d2 with
      | int j =>
        obtain ⟨h1, e⟩ := chk_ok e
        cases e
        rw [Bool.and_eq_true] at h1
        have h2 := okRange_iff.mp h1.1
        have h3 := okRange_iff.mp h1.2
        exact ⟨i, j, by rw [va.int, vb.int], ⟨h2.1, h2.2, h3.1, h3.2⟩, k _ G2 H2 (x1.trans x2) rp2 itd_range⟩
      | _ => cases e
    | _ => cases e
/-- pairs, one a turn -/
theorem rp_pair {K : Tri} {fm : Fm} {G H : Hp} {σ : L2.St} {ρ : Ro} {T : Addr} {x y : V} {dx dy : PyData} (r : Rp K fm G H σ ρ) (hT : H T = none) (hx : Dp K.K G x dx) (hy : Dp K.K G y dy) :
    ∃ G', Ex G G' ∧ Rp K fm G' (upd H T (.tup [x, y])) σ ρ ∧ Dp K.K G' (.ref T) (.tuple [dx, dy]) := by
  have gT : G T = none := fresh_back r.gh hT
  exact ⟨_, Ex.new gT, r.gnew hT, .tup (st_of upd_same) (.cons (dp_mono (Ex.new gT) hx) (.cons (dp_mono (Ex.new gT) hy) .nil))⟩
def numbered (xs : List PyData) : List PyData := (List.range xs.length).zipWith (fun (i : Nat) d => .tuple [.int (i : Int), d]) xs
theorem numbered_get {xs : List PyData} {i : Nat} {d : PyData} (h : xs[i]? = some d) : (numbered xs)[i]? = some (.tuple [.int (i : Int), d]) := by
  have hi : i < xs.length := (List.getElem?_eq_some_iff.mp h).1
  unfold numbered
  rw [List.getElem?_zipWith, List.getElem?_range hi, h]
theorem numbered_len (xs : List PyData) : (numbered xs).length = xs.length := by
  unfold numbered
  rw [List.length_zipWith, List.length_range, Nat.min_self]
theorem itd_enum {K : Tri} {fm : Fm} {G0 : Hp} {a : Addr} {vs : List V} {xs : List PyData} (da : DpAll K.K G0 vs xs) (hs : ∀ (fm' : Fm) (G' H' : Hp) (σ : L2.St) (ρ : Ro), Ex fm.L fm'.L → Ex G0 G' → Rp K fm' G' H' σ ρ → SqL K.K H' a vs) : ItD K fm G0 (numbered xs) (Ite K.K a) :=
  itd_walk walk_enum ((dpa_len da).trans (numbered_len xs).symm) (fun G H σ ρ fm' x y r => hs fm' G H σ ρ x y r) fun i G H σ ρ fm' v H' x y r hi ⟨T, p, q, e1, e2, e3, e4, e5⟩ => by
    subst e1
    subst e3
    cases e4
    obtain ⟨d, h1, h2⟩ := dpa_get da e5
    obtain ⟨G', x', r', d'⟩ := rp_pair r e2 (Dp.int (i : Int)) (dp_mono y h2)
    exact ⟨_, G', numbered_get h1, x', r', d'⟩
@[simp] def mEnum (m : M Hd) (ρ : Ro) : R (List PyData × Ro) := (m ρ).bind fun p => (stay p.1 p.2).bind fun d => match d with
  | .list xs => .ok (numbered xs, p.2)
  | _ => .bad
theorem si_enum {e : Expr} {m : M Hd} {p pos tpos : Pos} {elts : List Expr} {kk : Nat} (hm : X.mg "enumerate" = none) (he : PE X e (TM X.tri m)) (hg : Gl X "enumerate" := by rfl) (hs : starEach [e] X.env = [(false, eval e X.env)] := by rfl) :
    PI X (.Tuple elts kk tpos) (.Call (.Name "enumerate" p) [e] [] pos) (TI' X.tri (mEnum m)) :=
  pi_imp (pi_enum hg hm (pa_cons he pa_nil hs) hs) fun σ H W ⟨fm, G, ρ, items, ρ', rp, e, k⟩ => by
    obtain ⟨⟨h1, ρ1⟩, e1, e⟩ := R.of_bind e
    obtain ⟨d, e2, e⟩ := R.of_bind e
    refine ⟨fm, G, ρ, h1, ρ1, rp, e1, fun v G1 H1 x1 rp1 hv => ?_⟩
    cases d with
    | list xs =>
      cases e
      obtain ⟨a, vs, rfl, da, hs⟩ := (stay_ok rp1 hv e2).lst
      exact ⟨a, vs, rfl, hs fm G1 H1 σ ρ1 (Ex.refl _) (Ex.refl _) rp1, k _ G1 H1 x1 rp1 (itd_enum da hs)⟩
    | _ => cases e
def paired (xs ys : List PyData) : List PyData := List.zipWith (fun a b => .tuple [a, b]) xs ys
theorem paired_get {xs ys : List PyData} {i : Nat} {d e : PyData} (h : xs[i]? = some d) (g : ys[i]? = some e) : (paired xs ys)[i]? = some (.tuple [d, e]) := by
  unfold paired
  rw [List.getElem?_zipWith, h, g]
theorem itd_zip {K : Tri} {fm : Fm} {G0 : Hp} {a b : Addr} {vs ws : List V} {xs ys : List PyData} (da : DpAll K.K G0 vs xs) (db : DpAll K.K G0 ws ys) (hs : ∀ (fm' : Fm) (G' H' : Hp) (σ : L2.St) (ρ : Ro), Ex fm.L fm'.L → Ex G0 G' → Rp K fm' G' H' σ ρ → SqL K.K H' a vs)
    (ht : ∀ (fm' : Fm) (G' H' : Hp) (σ : L2.St) (ρ : Ro), Ex fm.L fm'.L → Ex G0 G' → Rp K fm' G' H' σ ρ → SqL K.K H' b ws) : ItD K fm G0 (paired xs ys) (Itz K.K a b) :=
  itd_walk (walk_zip (xs := vs) (ys := ws) rfl) (by unfold paired; rw [List.length_zipWith, dpa_len da, dpa_len db]) (fun G H σ ρ fm' x y r => ⟨hs fm' G H σ ρ x y r, ht fm' G H σ ρ x y r⟩) fun i G H σ ρ fm' v H' x y r hi ⟨T, p, q, e1, e2, e3, e4, e5⟩ => by
    subst e1
    subst e3
    obtain ⟨d, h1, h2⟩ := dpa_get da e4
    obtain ⟨d', h1', h2'⟩ := dpa_get db e5
    obtain ⟨G', x', r', d'⟩ := rp_pair r e2 (dp_mono y h2) (dp_mono y h2')
    exact ⟨_, G', paired_get h1 h1', x', r', d'⟩
theorem walk_zipT {K : PySem.W.Frag} {a b : Addr} {vs ws : List V} {n : Nat} (hn : n = min vs.length ws.length) : Walk (RZ.ItzT K a b) n (fun H => SqT K H a vs ∧ SqT K H b ws) (YPair (fun i => vs[i]?) (fun i => ws[i]?)) where
  goes := fun i H hi q => ⟨vs, ws, vs[i]'(by omega), ws[i]'(by omega), q.1, q.2, List.getElem?_eq_getElem _, List.getElem?_eq_getElem _⟩
  stops := fun H q => ⟨vs, ws, q.1, q.2, by omega⟩
  yields := fun i H x H' hi q y => by
    obtain ⟨T, u, v, h1, h2, h3, h4, h5⟩ := y
    exact ⟨T, u, v, h1, h2, h3, h4 vs q.1, h5 ws q.2⟩
theorem itd_zipT {K : Tri} {fm : Fm} {G0 : Hp} {a b : Addr} {vs ws : List V} {xs ys : List PyData} (da : DpAll K.K G0 vs xs) (db : DpAll K.K G0 ws ys) (hs : SqT K.K G0 a vs) (ht : SqT K.K G0 b ws) : ItD K fm G0 (paired xs ys) (RZ.ItzT K.K a b) :=
  itd_walk (walk_zipT (vs := vs) (ws := ws) rfl) (by unfold paired; rw [List.length_zipWith, dpa_len da, dpa_len db]) (fun G H σ ρ fm' x y r => ⟨ex_t (y.trans r.gh) hs, ex_t (y.trans r.gh) ht⟩) fun i G H σ ρ fm' v H' x y r hi ⟨T, p, q, e1, e2, e3, e4, e5⟩ => by
    subst e1
    subst e3
    obtain ⟨d, h1, h2⟩ := dpa_get da e4
    obtain ⟨d', h1', h2'⟩ := dpa_get db e5
    obtain ⟨G', x', r', d'⟩ := rp_pair r e2 (dp_mono y h2) (dp_mono y h2')
    exact ⟨_, G', paired_get h1 h1', x', r', d'⟩
@[simp] def mZip (m n : M Hd) (ρ : Ro) : R (List PyData × Ro) := (m ρ).bind fun p => (n p.2).bind fun q => (stay p.1 q.2).bind fun d => (stay q.1 q.2).bind fun e => match d, e with
  | .list xs, .list ys => .ok (paired xs ys, q.2)
  | .tuple xs, .tuple ys => .ok (paired xs ys, q.2)
  | _, _ => .bad
theorem si_zip {e e2 : Expr} {m n : M Hd} {p pos tpos : Pos} {elts : List Expr} {kk : Nat} (hm : X.mg "zip" = none) (he : PE X e (TM X.tri m)) (he2 : PE X e2 (TM X.tri n)) (hg : Gl X "zip" := by rfl)
    (hs : starEach [e, e2] X.env = (false, eval e X.env) :: starEach [e2] X.env := by rfl) (hs2 : starEach [e2] X.env = (false, eval e2 X.env) :: starEach [] X.env := by rfl) (hpl : (backTo pos (starEach [e2] X.env)).any (·.1) = false := by rfl) :
    PI X (.Tuple elts kk tpos) (.Call (.Name "zip" p) [e, e2] [] pos) (TI' X.tri (mZip m n)) :=
  pi_imp (RZ.pi_zipA hg hm (pa_cons he (pa_cons he2 pa_nil hs2) hs) hs hpl) fun σ H W ⟨fm, G, ρ, items, ρ', rp, e, k⟩ => by
    obtain ⟨⟨h1, ρ1⟩, e1, e⟩ := R.of_bind e
    obtain ⟨⟨h2, ρ2⟩, e2, e⟩ := R.of_bind e
    obtain ⟨d, e3, e⟩ := R.of_bind e
    obtain ⟨d2, e4, e⟩ := R.of_bind e
    refine ⟨fm, G, ρ, h1, ρ1, rp, e1, fun v G1 H1 x1 rp1 hv => ⟨fm, G1, ρ1, h2, ρ2, rp1, e2, fun w G2 H2 x2 rp2 hw => ?_⟩⟩
    have va := stay_ok rp2 (relh_mono x2 hv) e3
    have vb := stay_ok rp2 hw e4
    cases d with
    | list xs =>
      cases d2 with
      | list ys =>
        cases e
        obtain ⟨a, vs, rfl, da, ha⟩ := va.lst
        obtain ⟨b, ws, rfl, db, hb⟩ := vb.lst
        exact ⟨a, b, vs, ws, rfl, .inl ⟨ha fm G2 H2 σ ρ2 (Ex.refl _) (Ex.refl _) rp2, hb fm G2 H2 σ ρ2 (Ex.refl _) (Ex.refl _) rp2, k _ G2 H2 (x1.trans x2) rp2 (itd_zip da db ha hb)⟩⟩
      | _ => cases e
    | tuple xs =>
      cases d2 with
      | tuple ys =>
        cases e
        obtain ⟨a, vs, rfl, da, ha⟩ := va.tup
        obtain ⟨b, ws, rfl, db, hb⟩ := vb.tup
        exact ⟨a, b, vs, ws, rfl, .inr ⟨ex_t rp2.gh ha, ex_t rp2.gh hb, k _ G2 H2 (x1.trans x2) rp2 (itd_zipT da db ha hb)⟩⟩
      | _ => cases e
    | _ => cases e
end
end FM
/-! list methods, comprehensions, defs -/
namespace FM
open PySem PySem.Spec PyProof.Rows L2 Evl

/-! ### the list of a slot -/
@[simp] def lsAt (i : Nat) (ρ : Ro) : R (LS × List PyData) := match ρ[i]? with
  | some (some (.ob .own (.ls xs))) => .ok (.own, xs)
  | some (some (.ob .rf (.ls xs))) => .ok (.rf, xs)
  | _ => .bad
theorem lsAt_ok {i : Nat} {ρ : Ro} {k : LS} {xs : List PyData} (e : lsAt i ρ = .ok (k, xs)) : ρ[i]? = some (some (.ls k xs)) ∧ k ≠ .lent := by
  unfold lsAt at e
  split at e
  · cases e
    exact ⟨by assumption, fun z => nomatch z⟩
  · cases e
    exact ⟨by assumption, fun z => nomatch z⟩
  · cases e
@[simp] def putL (i : Nat) (k : LS) (xs : List PyData) (ρ : Ro) : Ro := ρ.set i (some (.ls k xs))
theorem ls_of {K : Tri} {fm : Fm} {G H : Hp} {σ : L2.St} {ρ : Ro} {i : Nat} {k : LS} {xs : List PyData} {v : V} (rp : Rp K fm G H σ ρ) (h : ρ[i]? = some (some (.ls k xs))) (hv : σ[i]? = some (some v)) : ∃ a vs, v = .ref a ∧ H a = some (.lst vs) ∧ DpAll K.K G vs xs := by
  obtain ⟨w, h1, a, o, e, _, _, _, ha, _, vs, rfl, da⟩ := rp.sl i _ h
  have ew : v = w := by
    rw [hv] at h1
    injection h1 with h1
    injection h1
  exact ⟨a, vs, ew.trans e, ha, da⟩
/-- l.append(e) -/
@[simp] def mApp (i : Nat) (m : M Hd) (ρ : Ro) : R (Hd × Ro) := (mVar i ρ).bind fun _ => (lsAt i ρ).bind fun _ => (m ρ).bind fun p => (fz p.1 p.2).bind fun q => (lsAt i q.2).bind fun l => chk (l.2.length < big) (.ok (.dat .none, putL i l.1 (l.2 ++ [q.1]) q.2))
/-- l.pop() -/
@[simp] def mPop (i : Nat) (ρ : Ro) : R (Hd × Ro) := (mVar i ρ).bind fun _ => (lsAt i ρ).bind fun l => match l.2[l.2.length - 1]? with
  | some d => .ok (.dat d, putL i l.1 l.2.dropLast ρ)
  | none => .bad
/-- l.pop(k) -/
@[simp] def mPopAt (i : Nat) (m : M Hd) (ρ : Ro) : R (Hd × Ro) := (mVar i ρ).bind fun _ => (lsAt i ρ).bind fun _ => (m ρ).bind fun p => (rs p.1 p.2).bind fun d => (lsAt i p.2).bind fun l => match d with
  | .int j => chk (lim64 (2 * j) = true) (match seqIndex? j l.2.length with
    | some k => match l.2[k]? with
      | some x => .ok (.dat x, putL i l.1 (l.2.eraseIdx k) p.2)
      | none => .bad
    | none => .bad)
  | _ => .bad
section
variable {X : Cx} {e : Expr} {pos apos cpos : Pos} {x : Str} {m n : M Hd}
theorem var_slot {K : Tri} {fm : Fm} {G H : Hp} {σ : L2.St} {ρ ρ0 : Ro} {i : Nat} {h0 : Hd} (rp : Rp K fm G H σ ρ) (e : mVar i ρ = .ok (h0, ρ0)) : ∃ v, σ[i]? = some (some v) := by
  obtain ⟨_, _, sv, q⟩ := slot_of e
  obtain ⟨v, h1, _⟩ := rp.sl i sv q
  exact ⟨v, h1⟩
theorem se_app (i : Nat) (he : PE X e (TM X.tri m)) (hN : X.N[i]? = some x := by rfl) (hv : Vis X.env.scope x := by first | exact Or.inl rfl | exact Or.inr (Or.inl rfl) | exact Or.inr (Or.inr rfl)) (hd : (x == ("__debug__" : Str)) = false := by rfl)
    (hcd : (x == ("__classdict__" : Str)) = false := by rfl) (hbase : attributeBase (.Name x pos) "append" X.env (eval (.Name x pos) X.env) = eval (.Name x pos) X.env := by rfl)
    (hfew : ((backTo cpos (starEach [e] X.env)).all (fun x => !x.1) && (backToKw cpos (keywordEach [] X.env)).all (fun x => x.1.isSome) && decide (([e] : List Expr).length + ([] : List Keyword).length + (if ([] : List Keyword).isEmpty then 0 else 1) < 30)) = true := by rfl)
    (hline : (apos.endLine == cpos.line) = true := by rfl) (hs : starEach [e] X.env = (false, eval e X.env) :: starEach [] X.env := by rfl) (hplain : (backTo cpos (starEach [] X.env)).any (·.1) = false := by rfl) :
    PE X (.Call (.Attribute (.Name x pos) "append" apos) [e] [] cpos) (TM X.tri (mApp i m)) :=
  pe_imp (pe_bm PySem.F.plainAttrs_list PySem.F.slot_list_append PySem.F.type_list_append mt_append (pe_var hN hv hd hcd) (pa_cons he pa_nil hs) hbase hfew hline hs hplain) fun σ H Q ⟨fm, G, ρ, h, ρ', rp, e, k⟩ => by
    obtain ⟨⟨h0, ρ0⟩, e0, e⟩ := R.of_bind e
    obtain ⟨⟨k0, xs0⟩, e00, e⟩ := R.of_bind e
    obtain ⟨⟨h1, ρ1⟩, e1, e⟩ := R.of_bind e
    obtain ⟨⟨d, ρ2⟩, e2, e⟩ := R.of_bind e
    obtain ⟨⟨kk, xs⟩, e3, e⟩ := R.of_bind e
    obtain ⟨hz, e⟩ := chk_ok e
    cases e
    obtain ⟨v, hv⟩ := var_slot rp e0
    obtain ⟨l00, _⟩ := lsAt_ok e00
    obtain ⟨a0, vs0, rfl, ha0, _⟩ := ls_of rp l00 hv
    refine ⟨.ref a0, hv, .inl ⟨rfl, vs0, sq_of ha0⟩, fm, G, ρ, h1, ρ1, rp, e1, fun y G1 H1 x1 rp1 hy => ?_⟩
    obtain ⟨G2, x2, rp2, hd⟩ := fz_ok rp1 hy e2
    obtain ⟨l3, nk⟩ := lsAt_ok e3
    obtain ⟨a, vs, ea, ha, da⟩ := ls_of rp2 l3 hv
    cases ea
    refine ⟨a0, vs, y, rfl, rfl, ha, by rw [dpa_len da]; exact big_lt hz, ?_⟩
    exact k .non G2 _ (x1.trans x2) (rp2.mut l3 nk hv (dpa_app da (dpa_one hd))) .non
theorem se_pop (i : Nat) (hN : X.N[i]? = some x := by rfl) (hv : Vis X.env.scope x := by first | exact Or.inl rfl | exact Or.inr (Or.inl rfl) | exact Or.inr (Or.inr rfl)) (hd : (x == ("__debug__" : Str)) = false := by rfl)
    (hcd : (x == ("__classdict__" : Str)) = false := by rfl) (hbase : attributeBase (.Name x pos) "pop" X.env (eval (.Name x pos) X.env) = eval (.Name x pos) X.env := by rfl)
    (hline : (apos.endLine == cpos.line) = true := by rfl) :
    PE X (.Call (.Attribute (.Name x pos) "pop" apos) [] [] cpos) (TM X.tri (mPop i)) :=
  pe_imp (pe_bm0 PySem.F.plainAttrs_list PySem.F.slot_list_pop PySem.F.type_list_pop mt_pop (pe_var hN hv hd hcd) hbase hline) fun σ H Q ⟨fm, G, ρ, h, ρ', rp, e, k⟩ => by
    obtain ⟨⟨h0, ρ0⟩, e0, e⟩ := R.of_bind e
    obtain ⟨⟨kk, xs⟩, e3, e⟩ := R.of_bind e
    obtain ⟨v, hv⟩ := var_slot rp e0
    obtain ⟨l3, nk⟩ := lsAt_ok e3
    obtain ⟨a, vs, rfl, ha, da⟩ := ls_of rp l3 hv
    cases q : xs[xs.length - 1]? with
    | none =>
      simp only [q] at e
      cases e
    | some d =>
      simp only [q] at e
      cases e
      obtain ⟨w, hw, dw⟩ := dpa_at da q
      refine ⟨.ref a, hv, .inl ⟨rfl, vs, sq_of ha⟩, a, vs, w, rfl, rfl, ha, by rw [dpa_len da]; exact hw, ?_⟩
      exact k w G _ (Ex.refl G) (rp.mut l3 nk hv (dpa_droplast da)) dw
theorem se_popAt (i : Nat) (he : PE X e (TM X.tri m)) (hN : X.N[i]? = some x := by rfl) (hv : Vis X.env.scope x := by first | exact Or.inl rfl | exact Or.inr (Or.inl rfl) | exact Or.inr (Or.inr rfl)) (hd : (x == ("__debug__" : Str)) = false := by rfl)
    (hcd : (x == ("__classdict__" : Str)) = false := by rfl) (hbase : attributeBase (.Name x pos) "pop" X.env (eval (.Name x pos) X.env) = eval (.Name x pos) X.env := by rfl)
    (hfew : ((backTo cpos (starEach [e] X.env)).all (fun x => !x.1) && (backToKw cpos (keywordEach [] X.env)).all (fun x => x.1.isSome) && decide (([e] : List Expr).length + ([] : List Keyword).length + (if ([] : List Keyword).isEmpty then 0 else 1) < 30)) = true := by rfl)
    (hline : (apos.endLine == cpos.line) = true := by rfl) (hs : starEach [e] X.env = (false, eval e X.env) :: starEach [] X.env := by rfl) (hplain : (backTo cpos (starEach [] X.env)).any (·.1) = false := by rfl) :
    PE X (.Call (.Attribute (.Name x pos) "pop" apos) [e] [] cpos) (TM X.tri (mPopAt i m)) :=
  pe_imp (pe_bm PySem.F.plainAttrs_list PySem.F.slot_list_pop PySem.F.type_list_pop mt_popAt (pe_var hN hv hd hcd) (pa_cons he pa_nil hs) hbase hfew hline hs hplain) fun σ H Q ⟨fm, G, ρ, h, ρ', rp, e, k⟩ => by
    obtain ⟨⟨h0, ρ0⟩, e0, e⟩ := R.of_bind e
    obtain ⟨⟨k0, xs0⟩, e00, e⟩ := R.of_bind e
    obtain ⟨⟨h1, ρ1⟩, e1, e⟩ := R.of_bind e
    obtain ⟨d, e2, e⟩ := R.of_bind e
    obtain ⟨⟨kk, xs⟩, e3, e⟩ := R.of_bind e
    obtain ⟨v, hv⟩ := var_slot rp e0
    obtain ⟨l00, _⟩ := lsAt_ok e00
    obtain ⟨a0, vs0, rfl, ha0, _⟩ := ls_of rp l00 hv
    refine ⟨.ref a0, hv, .inl ⟨rfl, vs0, sq_of ha0⟩, fm, G, ρ, h1, ρ1, rp, e1, fun y G1 H1 x1 rp1 hy => ?_⟩
    obtain ⟨l3, nk⟩ := lsAt_ok e3
    obtain ⟨a, vs, ea, ha, da⟩ := ls_of rp1 l3 hv
    cases ea
    have vy := rs_vw rp1 hy e2
    cases d with
    | int j =>
      obtain ⟨hj, e⟩ := chk_ok e
      cases q : seqIndex? j xs.length with
      | none =>
        simp only [q] at e
        cases e
      | some kx =>
        simp only [q] at e
        cases q2 : xs[kx]? with
        | none =>
          simp only [q2] at e
          cases e
        | some z =>
          simp only [q2] at e
          cases e
          obtain ⟨w, hw, dw⟩ := dpa_at da q2
          have hj2 := lim64_ok hj
          refine ⟨a0, vs, j, kx, w, rfl, by rw [vy.int], ha, by omega, by omega, by rw [dpa_len da]; exact q, hw, ?_⟩
          exact k w G1 _ x1 (rp1.mut l3 nk hv (dpa_erase kx da)) dw
    | _ => cases e
/-- l[i] = e -/
@[simp] def mSetIx (i : Nat) (mi me : M Hd) (ρ : Ro) : R (Fl × Ro) := (me ρ).bind fun p => (fz p.1 p.2).bind fun q => (mVar i q.2).bind fun _ => (mi q.2).bind fun r => (rs r.1 r.2).bind fun d => (lsAt i r.2).bind fun l => match d with
  | .int j => match ixN l.2.length j with
    | some k => .ok (.nx, putL i l.1 (l.2.set k q.1) r.2)
    | none => .bad
  | _ => .bad
theorem ss_setIx (i : Nat) {ie : Expr} {spos : Pos} (hi : PE X ie (TM X.tri m)) (he : PE X e (TM X.tri n)) (hN : X.N[i]? = some x := by rfl) (hv : Vis X.env.scope x := by first | exact Or.inl rfl | exact Or.inr (Or.inl rfl) | exact Or.inr (Or.inr rfl)) (hd : (x == ("__debug__" : Str)) = false := by rfl)
    (hcd : (x == ("__classdict__" : Str)) = false := by rfl)
    (ha : ∀ v, assign (.Subscript (.Name x pos) ie apos) X.env v = (do
      let ov ← holding [v] (eval (.Name x pos) X.env)
      let iv ← holding [v, ov] (eval ie X.env)
      standAt apos
      holding [v, ov, iv] (setItem ov iv v)
      release [v, ov, iv] []) := by intro _; rfl)
    (hs : swapsWithSole [.Subscript (.Name x pos) ie apos] e spos.line X.env = pure false := by rfl) (hw : swappedStores [.Subscript (.Name x pos) ie apos] e X.env = pure none := by rfl)
    (h1 : (assignEach [.Subscript (.Name x pos) ie apos] X.env).map (·.2) = [assign (.Subscript (.Name x pos) ie apos) X.env] := by rfl) :
    PS X (.Assign [.Subscript (.Name x pos) ie apos] e spos) (TS' X.tri (mSetIx i m n)) :=
  ps_imp (ps_asg he (pg_sub (pe_var hN hv hd hcd) hi set_list ha) hs hw h1) fun D σ H ⟨fm, G, ρ, f, ρ', rp, e, k⟩ => by
    obtain ⟨⟨h1, ρ1⟩, e1, e⟩ := R.of_bind e
    obtain ⟨⟨d, ρ2⟩, e2, e⟩ := R.of_bind e
    obtain ⟨⟨h0, ρ0⟩, e0, e⟩ := R.of_bind e
    obtain ⟨⟨h3, ρ3⟩, e3, e⟩ := R.of_bind e
    obtain ⟨z, e4, e⟩ := R.of_bind e
    obtain ⟨⟨kk, xs⟩, e5, e⟩ := R.of_bind e
    refine ⟨fm, G, ρ, h1, ρ1, rp, e1, fun y G1 H1 x1 rp1 hy => ?_⟩
    obtain ⟨G2, x2, rp2, hd⟩ := fz_ok rp1 hy e2
    obtain ⟨v, hv⟩ := var_slot rp2 e0
    refine ⟨v, hv, fm, G2, ρ2, h3, ρ3, rp2, e3, fun w G3 H3 x3 rp3 hw => ?_⟩
    have vw := rs_vw rp3 hw e4
    obtain ⟨l3, nk⟩ := lsAt_ok e5
    obtain ⟨a, vs, rfl, ha, da⟩ := ls_of rp3 l3 hv
    cases z with
    | int j =>
      cases q : ixN xs.length j with
      | none =>
        simp only [q] at e
        cases e
      | some kx =>
        simp only [q] at e
        cases e
        refine ⟨a, vs, j, kx, rfl, vw.int, ha, by rw [dpa_len da]; exact q, ?_⟩
        exact k G3 _ _ ((x1.trans x2).trans x3) (rp3.mut l3 nk hv (dpa_set (dp_mono x3 hd) kx da))
    | _ => cases e
end

/-! ### what a slot holds is lent while something is done -/
@[simp] def obAt (i : Nat) (ρ : Ro) : R (LS × Ct) := match ρ[i]? with
  | some (some (.ob .own c)) => .ok (.own, c)
  | some (some (.ob .rf c)) => .ok (.rf, c)
  | _ => .bad
theorem obAt_ok {i : Nat} {ρ : Ro} {k : LS} {c : Ct} (e : obAt i ρ = .ok (k, c)) : ρ[i]? = some (some (.ob k c)) ∧ k ≠ .lent := by
  unfold obAt at e
  split at e
  · cases e
    exact ⟨by assumption, fun z => nomatch z⟩
  · cases e
    exact ⟨by assumption, fun z => nomatch z⟩
  · cases e
@[simp] def putC (i : Nat) (k : LS) (c : Ct) (ρ : Ro) : Ro := ρ.set i (some (.ob k c))
@[simp] def lend (i : Nat) (ρ : Ro) : R (LS × Ct × Ro) := (obAt i ρ).bind fun l => .ok (l.1, l.2, putC i .lent l.2 ρ)
theorem rp_lend {K : Tri} {fm : Fm} {G H : Hp} {σ : L2.St} {ρ : Ro} {i : Nat} {k : LS} {c : Ct} (r : Rp K fm G H σ ρ) (h : ρ[i]? = some (some (.ob k c))) (hk : k ≠ .lent) :
    ∃ a o, σ[i]? = some (some (.ref a)) ∧ H a = some o ∧ Mut (some o) ∧ CtOk K G a o c ∧ fm.F a = none ∧ fm.L a = none ∧ G a = none ∧ Rp K ⟨fm.F, upd fm.L a o, (i, a) :: fm.B⟩ G H σ (putC i .lent c ρ) := by
  have hi : i < ρ.length := (List.getElem?_eq_some_iff.mp h).1
  obtain ⟨v, hv, a, o, rfl, ga, fa, la, ha, mo, da⟩ := r.sl i _ h
  rw [if_neg hk] at la
  refine ⟨a, o, hv, ha, mo, da, fa, la, ga, by unfold putC; rw [List.length_set, r.len], r.gh, r.fh, r.fg, fun b u q => ?_, fun b q => ?_, fun j sv q => ?_, fun j l b s1 s2 h1 o1 h2 o2 h3 h4 => ?_, fun p hp => ?_⟩
  · have q : (upd fm.L a o) b = some u := q
    by_cases e : b = a
    · subst e
      rw [show (upd fm.L b o) b = some o from upd_same] at q
      rw [ha]
      exact q
    · rw [show (upd fm.L a o) b = fm.L b from upd_ne e] at q
      exact r.lh b u q
  · have q : (upd fm.L a o) b ≠ none := q
    by_cases e : b = a
    · rw [e]
      exact ga
    · rw [show (upd fm.L a o) b = fm.L b from upd_ne e] at q
      exact r.lg b q
  · unfold putC at q
    by_cases e : j = i
    · subst e
      rw [List.getElem?_set_self hi] at q
      cases q
      exact ⟨_, hv, a, o, rfl, ga, fa, by rw [if_pos rfl]; exact upd_same, ha, mo, da⟩
    · rw [List.getElem?_set_ne (Ne.symm e)] at q
      obtain ⟨w, h1, h2⟩ := r.sl j sv q
      refine ⟨w, h1, ?_⟩
      cases sv with
      | fz d => exact h2
      | ob k2 c2 =>
        obtain ⟨b, us, rfl, gb, fb, lb, hb, mb, db⟩ := h2
        have eb : b ≠ a := by
          rintro rfl
          exact e (r.ap j i b _ _ q trivial h trivial h1 hv)
        refine ⟨b, us, rfl, gb, fb, ?_, hb, mb, db⟩
        show (if k2 = .lent then (upd fm.L a o) b = some us else (upd fm.L a o) b = none)
        rw [upd_ne eb]
        exact lb
  · have f1 : ∃ t : Sv, ρ[j]? = some (some t) ∧ Sv.owned t := by
      by_cases ej : j = i
      · exact ⟨Sv.ob k c, by rw [ej]; exact h, trivial⟩
      · unfold putC at h1
        rw [List.getElem?_set_ne (Ne.symm ej)] at h1
        exact ⟨s1, h1, o1⟩
    have f2 : ∃ t : Sv, ρ[l]? = some (some t) ∧ Sv.owned t := by
      by_cases ej : l = i
      · exact ⟨Sv.ob k c, by rw [ej]; exact h, trivial⟩
      · unfold putC at h2
        rw [List.getElem?_set_ne (Ne.symm ej)] at h2
        exact ⟨s2, h2, o2⟩
    obtain ⟨t1, g1, p1⟩ := f1
    obtain ⟨t2, g2, p2⟩ := f2
    exact r.ap j l b t1 t2 g1 p1 g2 p2 h3 h4
  · rcases List.mem_cons.mp hp with rfl | hp
    · exact ⟨hv, .ob .lent c, List.getElem?_set_self hi, trivial⟩
    · obtain ⟨h1, sv, h2, h3⟩ := r.pin p hp
      refine ⟨h1, ?_⟩
      by_cases e : p.1 = i
      · rw [e]
        exact ⟨.ob .lent c, List.getElem?_set_self hi, trivial⟩
      · exact ⟨sv, by unfold putC; rw [List.getElem?_set_ne (Ne.symm e)]; exact h2, h3⟩
theorem rp_unlend {K : Tri} {fm : Fm} {G G' H : Hp} {σ : L2.St} {ρ : Ro} {i : Nat} {a : Addr} {o : HO} {k : LS} {c : Ct} (r : Rp K ⟨fm.F, upd fm.L a o, (i, a) :: fm.B⟩ G' H σ ρ) (fa : fm.F a = none) (la : fm.L a = none) (x : Ex G G') (mo : Mut (some o)) (da : CtOk K G a o c) (hk : k ≠ .lent)
    (hb : k = .own → ∀ p ∈ fm.B, p.1 ≠ i) : Rp K fm G' H σ (putC i k c ρ) := by
  obtain ⟨hv, sv0, h0, p0⟩ := r.pin (i, a) List.mem_cons_self
  have hi : i < ρ.length := (List.getElem?_eq_some_iff.mp h0).1
  have hF : (upd fm.L a o) a = some o := upd_same
  have ow0 : Sv.owned sv0 := by
    cases sv0 with
    | fz d => exact p0
    | ob _ _ => trivial
  refine ⟨by unfold putC; rw [List.length_set, r.len], r.gh, r.fh, r.fg, fun b u q => ?_, fun b q => ?_, fun j sv q => ?_, fun j l b s1 s2 h1 o1 h2 o2 h3 h4 => ?_, fun p hp => ?_⟩
  · refine r.lh b u ?_
    show (upd fm.L a o) b = some u
    rw [upd_ne (ne_of_none q la)]
    exact q
  · refine r.lg b ?_
    show (upd fm.L a o) b ≠ none
    by_cases e : b = a
    · rw [e, hF]
      exact fun z => nomatch z
    · rw [upd_ne e]
      exact q
  · unfold putC at q
    by_cases e : j = i
    · subst e
      rw [List.getElem?_set_self hi] at q
      cases q
      refine ⟨_, hv, a, o, rfl, r.lg a ?_, fa, by rw [if_neg hk]; exact la, r.lh a _ hF, mo, ct_mono x da⟩
      show (upd fm.L a o) a ≠ none
      rw [hF]
      exact fun z => nomatch z
    · rw [List.getElem?_set_ne (Ne.symm e)] at q
      obtain ⟨w, h1, h2⟩ := r.sl j sv q
      refine ⟨w, h1, ?_⟩
      cases sv with
      | fz d => exact h2
      | ob k2 c2 =>
        obtain ⟨b, us, rfl, gb, fb, lb, hb', mb, db⟩ := h2
        have eb : b ≠ a := by
          rintro rfl
          exact e (r.ap j i b _ _ q trivial h0 ow0 h1 hv)
        refine ⟨b, us, rfl, gb, fb, ?_, hb', mb, db⟩
        have lb : (if k2 = .lent then (upd fm.L a o) b = some us else (upd fm.L a o) b = none) := lb
        rw [upd_ne eb] at lb
        exact lb
  · have f1 : ∃ t : Sv, ρ[j]? = some (some t) ∧ Sv.owned t := by
      by_cases ej : j = i
      · exact ⟨sv0, by rw [ej]; exact h0, ow0⟩
      · unfold putC at h1
        rw [List.getElem?_set_ne (Ne.symm ej)] at h1
        exact ⟨s1, h1, o1⟩
    have f2 : ∃ t : Sv, ρ[l]? = some (some t) ∧ Sv.owned t := by
      by_cases ej : l = i
      · exact ⟨sv0, by rw [ej]; exact h0, ow0⟩
      · unfold putC at h2
        rw [List.getElem?_set_ne (Ne.symm ej)] at h2
        exact ⟨s2, h2, o2⟩
    obtain ⟨t1, g1, p1⟩ := f1
    obtain ⟨t2, g2, p2⟩ := f2
    exact r.ap j l b t1 t2 g1 p1 g2 p2 h3 h4
  · obtain ⟨h1, sv, h2, h3⟩ := r.pin p (List.mem_cons_of_mem _ hp)
    refine ⟨h1, ?_⟩
    by_cases e : p.1 = i
    · refine ⟨.ob k c, by rw [e]; exact List.getElem?_set_self hi, ?_⟩
      cases k with
      | own => exact absurd e (hb rfl p hp)
      | rf => trivial
      | lent => exact absurd rfl hk
    · exact ⟨sv, by unfold putC; rw [List.getElem?_set_ne (Ne.symm e)]; exact h2, h3⟩
theorem rp_ownB {K : Tri} {fm : Fm} {G H : Hp} {σ : L2.St} {ρ : Ro} {i : Nat} {k : LS} {c : Ct} (r : Rp K fm G H σ ρ) (h : ρ[i]? = some (some (.ob k c))) (e : k = .own) : ∀ p ∈ fm.B, p.1 ≠ i := fun p hp z => by
  obtain ⟨_, sv, h2, h3⟩ := r.pin p hp
  rw [z, h] at h2
  cases h2
  subst e
  exact h3
@[simp] def mLend (i : Nat) (m : MS) (ρ : Ro) : R (Fl × Ro) := (lend i ρ).bind fun p => (m p.2.2).bind fun q => .ok (q.1, putC i p.1 p.2.1 q.2)
@[simp] def mLendE {α : Type} (i : Nat) (m : M α) (ρ : Ro) : R (α × Ro) := (lend i ρ).bind fun p => (m p.2.2).bind fun q => .ok (q.1, putC i p.1 p.2.1 q.2)
theorem lend_of {i : Nat} {ρ : Ro} {p : LS × Ct × Ro} (e : lend i ρ = .ok p) : ρ[i]? = some (some (.ob p.1 p.2.1)) ∧ p.1 ≠ .lent ∧ p.2.2 = putC i .lent p.2.1 ρ := by
  obtain ⟨⟨k, xs⟩, e1, e⟩ := R.of_bind e
  cases e
  obtain ⟨h1, h2⟩ := obAt_ok e1
  exact ⟨h1, h2, rfl⟩
section
variable {X : Cx}
theorem ss_lend (i : Nat) {st : Stmt} {m : MS} (h : PS X st (TS' X.tri m)) : PS X st (TS' X.tri (mLend i m)) := ps_imp h fun D σ H ⟨fm, G, ρ, f, ρ', rp, e, k⟩ => by
  obtain ⟨⟨kk, xs, ρ1⟩, e1, e⟩ := R.of_bind e
  obtain ⟨⟨f2, ρ2⟩, e2, e⟩ := R.of_bind e
  cases e
  obtain ⟨h1, h2, h3⟩ := lend_of e1
  have h3 : ρ1 = putC i .lent xs ρ := h3
  subst h3
  obtain ⟨a, o, hv, ha, mo, da, fa, la, ga, rl⟩ := rp_lend rp h1 h2
  refine ⟨_, G, _, f2, ρ2, rl, e2, fun G' H' σ' x rp' => ?_⟩
  have r2 := rp_unlend rp' fa la x mo da h2 (rp_ownB rp h1)
  have q := k G' H' σ' x r2
  cases f2 with
  | rl zs =>
    refine fun v hv => q v ?_
    obtain ⟨p, us, rfl, fp, lp, gp, hp, dp, ow⟩ := hv
    have ep : p ≠ a := by
      rintro rfl
      have : (upd fm.L p o) p = none := lp
      rw [upd_same] at this
      cases this
    refine ⟨p, us, rfl, fp, ?_, gp, hp, dp, fun j sv hj oj z => ?_⟩
    · have : (upd fm.L a o) p = none := lp
      rw [upd_ne ep] at this
      exact this
    · by_cases ej : j = i
      · subst ej
        obtain ⟨hv2, _⟩ := rp'.pin (j, a) List.mem_cons_self
        have hv2 : σ'[j]? = some (some (V.ref a)) := hv2
        rw [z] at hv2
        injection hv2 with hv2
        injection hv2 with hv2
        injection hv2 with hv2
        exact ep hv2
      · unfold putC at hj
        rw [List.getElem?_set_ne (Ne.symm ej)] at hj
        exact ow j sv hj oj z
  | _ => exact q
theorem se_lend (i : Nat) {e : Expr} {m : M Hd} (h : PE X e (TM X.tri m)) : PE X e (TM X.tri (mLendE i m)) := pe_imp h fun σ H Q ⟨fm, G, ρ, f, ρ', rp, e, k⟩ => by
  obtain ⟨⟨kk, xs, ρ1⟩, e1, e⟩ := R.of_bind e
  obtain ⟨⟨f2, ρ2⟩, e2, e⟩ := R.of_bind e
  cases e
  obtain ⟨h1, h2, h3⟩ := lend_of e1
  have h3 : ρ1 = putC i .lent xs ρ := h3
  subst h3
  obtain ⟨a, o, hv, ha, mo, da, fa, la, ga, rl⟩ := rp_lend rp h1 h2
  exact ⟨_, G, _, f2, ρ2, rl, e2, fun v G' H' x rp' hv => k v G' H' x (rp_unlend rp' fa la x mo da h2 (rp_ownB rp h1)) hv⟩
theorem sl_lend (i : Nat) {e : Expr} {m : M (List PyData)} (h : PE X e (TL X.tri m)) : PE X e (TL X.tri (mLendE i m)) := pe_imp h fun σ H Q ⟨fm, G, ρ, f, ρ', rp, e, k⟩ => by
  obtain ⟨⟨kk, xs, ρ1⟩, e1, e⟩ := R.of_bind e
  obtain ⟨⟨f2, ρ2⟩, e2, e⟩ := R.of_bind e
  cases e
  obtain ⟨h1, h2, h3⟩ := lend_of e1
  have h3 : ρ1 = putC i .lent xs ρ := h3
  subst h3
  obtain ⟨a, o, hv, ha, mo, da, fa, la, ga, rl⟩ := rp_lend rp h1 h2
  refine ⟨_, G, _, f2, ρ2, rl, e2, fun v G' H' x rp' hv => k v G' H' x (rp_unlend rp' fa la x mo da h2 (rp_ownB rp h1)) ?_⟩
  obtain ⟨p, us, rfl, fp, lp, gp, hp, dp, ow⟩ := hv
  have ep : p ≠ a := by
    rintro rfl
    have : (upd fm.L p o) p = none := lp
    rw [upd_same] at this
    cases this
  refine ⟨p, us, rfl, fp, ?_, gp, hp, dp, fun j sv hj oj z => ?_⟩
  · have : (upd fm.L a o) p = none := lp
    rw [upd_ne ep] at this
    exact this
  · by_cases ej : j = i
    · subst ej
      obtain ⟨hv2, _⟩ := rp'.pin (j, a) List.mem_cons_self
      have hv2 : σ[j]? = some (some (V.ref a)) := hv2
      rw [z] at hv2
      injection hv2 with hv2
      injection hv2 with hv2
      injection hv2 with hv2
      exact ep hv2
    · unfold putC at hj
      rw [List.getElem?_set_ne (Ne.symm ej)] at hj
      exact ow j sv hj oj z
end
end FM
/-! comprehensions, defs -/
namespace FM
open PySem PySem.Spec PyProof.Rows L2 Evl

/-! ### comprehensions -/
@[simp] def wipeR (ρ : Ro) : List Nat → Ro
  | [] => ρ
  | v :: vs => (wipeR ρ vs).set v none
/-- the block's names as they were ahead -/
@[simp] def backR (o : Ro) (ρ : Ro) : List Nat → Ro
  | [] => ρ
  | v :: vs => (backR o ρ vs).set v (match o[v]? with
    | some (some (.fz d)) => some (.fz d)
    | _ => none)
@[simp] def plainAt (ρ : Ro) (v : Nat) : Bool := match ρ[v]? with
  | some none => true
  | some (some (.fz _)) => true
  | _ => false
theorem plainAt_ok {ρ : Ro} {v : Nat} (h : plainAt ρ v = true) : v < ρ.length ∧ ∀ sv : Sv, ρ[v]? = some (some sv) → ∃ d, sv = .fz d := by
  unfold plainAt at h
  cases q : ρ[v]? with
  | none =>
    rw [q] at h
    cases h
  | some o =>
    refine ⟨(List.getElem?_eq_some_iff.mp q).1, fun sv e => ?_⟩
    cases e
    rw [q] at h
    cases sv with
    | fz d => exact ⟨d, rfl⟩
    | ob k c => cases h
def loopC (g : PyData → Ro → R Ro) (t : M Bool) (e : M Hd) (vs : List Nat) : List PyData → Ro → R (List PyData × Ro)
  | [], ρ => .ok ([], ρ)
  | d :: ds, ρ => (g d ρ).bind fun ρ1 => (t ρ1).bind fun p => if p.1 = true then (e p.2).bind fun q => (fz q.1 q.2).bind fun r => (loopC g t e vs ds (wipeR r.2 vs)).bind fun z => .ok (r.1 :: z.1, z.2)
    else loopC g t e vs ds (wipeR p.2 vs)
@[simp] def mLc (mi : M (List PyData)) (g : PyData → Ro → R Ro) (t : M Bool) (e : M Hd) (vs : List Nat) (ρ : Ro) : R (List PyData × Ro) := (mi ρ).bind fun p => chk ((vs.all (plainAt p.2) && decide (p.1.length ≤ big)) = true) ((loopC g t e vs p.1 (wipeR p.2 vs)).bind fun q => .ok (q.1, backR p.2 q.2 vs))
section
variable {K : Tri} {fm : Fm} {G H : Hp} {σ : L2.St} {ρ : Ro}
theorem Rp.drop1 (r : Rp K fm G H σ ρ) (v : Nat) (hv : ∀ p ∈ fm.B, p.1 ≠ v) : Rp K fm G H (σ.set v none) (ρ.set v none) where
  len := by rw [List.length_set, List.length_set, r.len]
  gh := r.gh
  fh := r.fh
  fg := r.fg
  lh := r.lh
  lg := r.lg
  sl := fun j sv h => by
    have e : j ≠ v := by
      rintro rfl
      have hi : j < (ρ.set j none).length := (List.getElem?_eq_some_iff.mp h).1
      rw [List.getElem?_set_self (by simpa using hi)] at h
      cases h
    rw [List.getElem?_set_ne (Ne.symm e)] at h ⊢
    exact r.sl j sv h
  ap := fun i j a s1 s2 h1 o1 h2 o2 h3 h4 => by
    have e1 : i ≠ v := by
      rintro rfl
      have hi : i < (ρ.set i none).length := (List.getElem?_eq_some_iff.mp h1).1
      rw [List.getElem?_set_self (by simpa using hi)] at h1
      cases h1
    have e2 : j ≠ v := by
      rintro rfl
      have hi : j < (ρ.set j none).length := (List.getElem?_eq_some_iff.mp h2).1
      rw [List.getElem?_set_self (by simpa using hi)] at h2
      cases h2
    rw [List.getElem?_set_ne (Ne.symm e1)] at h1 h3
    rw [List.getElem?_set_ne (Ne.symm e2)] at h2 h4
    exact r.ap i j a s1 s2 h1 o1 h2 o2 h3 h4
  pin := fun p hp => by
    rw [List.getElem?_set_ne (Ne.symm (hv p hp)), List.getElem?_set_ne (Ne.symm (hv p hp))]
    exact r.pin p hp
theorem Rp.wiped (r : Rp K fm G H σ ρ) : ∀ (vs : List Nat), (∀ v ∈ vs, ∀ p ∈ fm.B, p.1 ≠ v) → Rp K fm G H (wipe σ vs) (wipeR ρ vs)
  | [], _ => r
  | v :: vs, h => (Rp.wiped r vs fun w hw => h w (List.mem_cons_of_mem _ hw)).drop1 v (h v List.mem_cons_self)
theorem wipe_at (σ : L2.St) (vs : List Nat) {j : Nat} (h : j ∉ vs) : (wipe σ vs)[j]? = σ[j]? := by
  induction vs with
  | nil => rfl
  | cons v vs ih =>
    unfold wipe
    rw [List.getElem?_set_ne (fun e => h (by rw [e]; exact List.mem_cons_self))]
    exact ih fun z => h (List.mem_cons_of_mem _ z)
theorem wipe_in (σ : L2.St) : ∀ (vs : List Nat) {j : Nat}, j ∈ vs → j < σ.length → (wipe σ vs)[j]? = some none
  | v :: vs, j, h, hj => by
    unfold wipe
    by_cases e : v = j
    · rw [e, List.getElem?_set_self (by rw [wipe_length]; exact hj)]
    · rw [List.getElem?_set_ne e]
      exact wipe_in σ vs ((List.mem_cons.mp h).resolve_left (Ne.symm e)) hj
theorem wipe_but {is vs : List Nat} {σ σ' : L2.St} (hs : ∀ i ∈ is, i ∈ vs) (b : But is (wipe σ vs) σ') : wipe σ' vs = wipe σ vs := by
  apply List.ext_getElem?
  intro j
  have hl : σ'.length = σ.length := b.1.trans (wipe_length σ vs)
  by_cases hj : j ∈ vs
  · by_cases hlt : j < σ.length
    · rw [wipe_in σ' vs hj (by rw [hl]; exact hlt), wipe_in σ vs hj hlt]
    · rw [List.getElem?_eq_none (by rw [wipe_length, hl]; omega), List.getElem?_eq_none (by rw [wipe_length]; omega)]
  · rw [wipe_at σ' vs hj]
    exact b.2 j fun z => hj (hs j z)
theorem backR_len (o ρ : Ro) : ∀ vs, (backR o ρ vs).length = ρ.length
  | [] => rfl
  | v :: vs => by
    unfold backR
    rw [List.length_set, backR_len o ρ vs]
theorem backR_at (o ρ : Ro) (vs : List Nat) {j : Nat} (h : j ∉ vs) : (backR o ρ vs)[j]? = ρ[j]? := by
  induction vs with
  | nil => rfl
  | cons v vs ih =>
    unfold backR
    rw [List.getElem?_set_ne (fun e => h (by rw [e]; exact List.mem_cons_self))]
    exact ih fun z => h (List.mem_cons_of_mem _ z)
theorem backR_in (o ρ : Ro) : ∀ (vs : List Nat) {j : Nat} {sv : Sv}, j ∈ vs → (backR o ρ vs)[j]? = some (some sv) → ∃ d, sv = .fz d ∧ o[j]? = some (some (.fz d))
  | v :: vs, j, sv, h, e => by
    unfold backR at e
    by_cases ev : v = j
    · subst ev
      have hj : v < (backR o ρ vs).length := by
        have := (List.getElem?_eq_some_iff.mp e).1
        rwa [List.length_set] at this
      rw [List.getElem?_set_self hj] at e
      injection e with e
      split at e
      · rename_i d q
        cases e
        exact ⟨d, rfl, q⟩
      · cases e
    · rw [List.getElem?_set_ne ev] at e
      exact backR_in o ρ vs ((List.mem_cons.mp h).resolve_left (Ne.symm ev)) e
/-- behind the block -/
theorem Rp.back {G0 H0 : Hp} {o : Ro} {vs : List Nat} (r0 : Rp K fm G0 H0 σ o) (x : Ex G0 G) (r : Rp K fm G H (wipe σ vs) ρ) : Rp K fm G H σ (backR o ρ vs) where
  len := by rw [backR_len, r.len, wipe_length]
  gh := r.gh
  fh := r.fh
  fg := r.fg
  lh := r.lh
  lg := r.lg
  sl := fun j sv h => by
    by_cases hj : j ∈ vs
    · obtain ⟨d, rfl, q⟩ := backR_in o ρ vs hj h
      obtain ⟨v, h1, h2⟩ := r0.sl j _ q
      exact ⟨v, h1, dp_mono x h2⟩
    · rw [backR_at o ρ vs hj] at h
      obtain ⟨v, h1, h2⟩ := r.sl j sv h
      rw [wipe_at σ vs hj] at h1
      exact ⟨v, h1, h2⟩
  ap := fun i j a s1 s2 h1 o1 h2 o2 h3 h4 => by
    have hi : i ∉ vs := fun z => by
      obtain ⟨d, rfl, _⟩ := backR_in o ρ vs z h1
      exact o1
    have hj : j ∉ vs := fun z => by
      obtain ⟨d, rfl, _⟩ := backR_in o ρ vs z h2
      exact o2
    rw [backR_at o ρ vs hi] at h1
    rw [backR_at o ρ vs hj] at h2
    exact r.ap i j a s1 s2 h1 o1 h2 o2 (by rw [wipe_at σ vs hi]; exact h3) (by rw [wipe_at σ vs hj]; exact h4)
  pin := fun p hp => by
    obtain ⟨h1, sv, h2, h3⟩ := r.pin p hp
    have hj : p.1 ∉ vs := fun z => by
      have hl : p.1 < σ.length := by
        have := (List.getElem?_eq_some_iff.mp h1).1
        rwa [wipe_length] at this
      rw [wipe_in σ vs z hl] at h1
      cases h1
    rw [wipe_at σ vs hj] at h1
    exact ⟨h1, sv, by rw [backR_at o ρ vs hj]; exact h2, h3⟩
/-- a list in the making is put into the frame -/
theorem Rp.make (r : Rp K fm G H σ ρ) {D : Addr} {oo : HO} (hD : H D = none) : Rp K ⟨upd fm.F D oo, fm.L, fm.B⟩ G (upd H D oo) σ ρ where
  len := r.len
  gh := r.gh.trans (Ex.new hD)
  fh := fun a o h => by
    have h : (upd fm.F D oo) a = some o := h
    by_cases e : a = D
    · subst e
      rw [upd_same] at h ⊢
      exact h
    · rw [upd_ne e] at h ⊢
      exact r.fh a o h
  fg := fun a h => by
    have h : (upd fm.F D oo) a ≠ none := h
    by_cases e : a = D
    · rw [e]
      exact fresh_back r.gh hD
    · rw [upd_ne e] at h
      exact r.fg a h
  lh := r.lh.trans (Ex.new hD)
  lg := r.lg
  sl := fun j sv h => by
    obtain ⟨v, h1, h2⟩ := r.sl j sv h
    refine ⟨v, h1, ?_⟩
    cases sv with
    | fz d => exact h2
    | ob k c =>
      obtain ⟨a, us, rfl, ga, fa, la, ha, mo, da⟩ := h2
      have e : a ≠ D := ne_of_none ha hD
      exact ⟨a, us, rfl, ga, (upd_ne e).trans fa, la, (upd_ne e).trans ha, mo, da⟩
  ap := r.ap
  pin := r.pin
/-- it grows -/
theorem Rp.more {D : Addr} {oo oo' : HO} (r : Rp K ⟨upd fm.F D oo, fm.L, fm.B⟩ G H σ ρ) (lD : fm.L D = none) : Rp K ⟨upd fm.F D oo', fm.L, fm.B⟩ G (upd H D oo') σ ρ := by
  have fD : (upd fm.F D oo) D ≠ none := by
    rw [upd_same]
    exact fun z => nomatch z
  exact {
    len := r.len
    gh := Ex.mut r.gh (r.fg D fD)
    fh := fun a o h => by
      have h : (upd fm.F D oo') a = some o := h
      by_cases e : a = D
      · subst e
        rw [upd_same] at h ⊢
        exact h
      · rw [upd_ne e] at h ⊢
        exact r.fh a o ((upd_ne e).trans h)
    fg := fun a h => by
      have h : (upd fm.F D oo') a ≠ none := h
      by_cases e : a = D
      · rw [e]
        exact r.fg D fD
      · rw [upd_ne e] at h
        refine r.fg a ?_
        show (upd fm.F D oo) a ≠ none
        rw [upd_ne e]
        exact h
    lh := Ex.mut r.lh lD
    lg := r.lg
    sl := fun j sv h => by
      obtain ⟨v, h1, h2⟩ := r.sl j sv h
      refine ⟨v, h1, ?_⟩
      cases sv with
      | fz d => exact h2
      | ob k c =>
        obtain ⟨a, us, rfl, ga, fa, la, ha, mo, da⟩ := h2
        have fa : (upd fm.F D oo) a = none := fa
        have e : a ≠ D := by
          rintro rfl
          exact fD fa
        rw [upd_ne e] at fa
        exact ⟨a, us, rfl, ga, (upd_ne e).trans fa, la, (upd_ne e).trans ha, mo, da⟩
    ap := r.ap
    pin := r.pin }
/-- it is done -/
theorem Rp.made' {D : Addr} {oo : HO} (r : Rp K ⟨upd fm.F D oo, fm.L, fm.B⟩ G H σ ρ) (fD : fm.F D = none) : Rp K fm G H σ ρ ∧ H D = some oo ∧ G D = none ∧ ∀ (i : Nat) (sv : Sv), ρ[i]? = some (some sv) → Sv.owned sv → σ[i]? ≠ some (some (V.ref D)) := by
  have hF : (upd fm.F D oo) D = some oo := upd_same
  refine ⟨⟨r.len, r.gh, fun a o h => r.fh a o ((upd_ne (ne_of_none h fD)).trans h), fun a h => r.fg a ?_, r.lh, r.lg, fun j sv h => ?_, r.ap, r.pin⟩, r.fh D _ hF, r.fg D (by
    show (upd fm.F D oo) D ≠ none
    rw [hF]
    exact fun z => nomatch z), fun i sv h o z => ?_⟩
  · show (upd fm.F D oo) a ≠ none
    have e : a ≠ D := by
      rintro rfl
      exact h fD
    rw [upd_ne e]
    exact h
  · obtain ⟨v, h1, h2⟩ := r.sl j sv h
    refine ⟨v, h1, ?_⟩
    cases sv with
    | fz d => exact h2
    | ob k c =>
      obtain ⟨a, us, rfl, ga, fa, la, ha, mo, da⟩ := h2
      have fa : (upd fm.F D oo) a = none := fa
      have e : a ≠ D := by
        rintro rfl
        rw [hF] at fa
        cases fa
      rw [upd_ne e] at fa
      exact ⟨a, us, rfl, ga, fa, la, ha, mo, da⟩
  · obtain ⟨v, h1, h2⟩ := r.sl i sv h
    cases sv with
    | fz d => exact o
    | ob k c =>
      obtain ⟨a, us, rfl, ga, fa, la, ha, mo, da⟩ := h2
      rw [z] at h1
      injection h1 with h1
      injection h1 with h1
      injection h1 with h1
      subst h1
      have fa : (upd fm.F D oo) D = none := fa
      rw [hF] at fa
      cases fa
end
theorem plain_pins {K : Tri} {fm : Fm} {G H : Hp} {σ : L2.St} {ρ : Ro} {vs : List Nat} (r : Rp K fm G H σ ρ) (h : vs.all (plainAt ρ) = true) : ∀ v ∈ vs, ∀ p ∈ fm.B, p.1 ≠ v := fun v hv p hp e => by
  obtain ⟨_, sv, h2, h3⟩ := r.pin p hp
  rw [e] at h2
  obtain ⟨d, rfl⟩ := (plainAt_ok (List.all_eq_true.mp h v hv)).2 sv h2
  exact h3
theorem loopC_len {g : PyData → Ro → R Ro} {t : M Bool} {e : M Hd} {vs : List Nat} : ∀ {ds : List PyData} {ρ : Ro} {xs : List PyData} {ρ' : Ro}, loopC g t e vs ds ρ = .ok (xs, ρ') → xs.length ≤ ds.length
  | [], ρ, xs, ρ', h => by
    cases h
    exact Nat.le_refl _
  | d :: ds, ρ, xs, ρ', h => by
    obtain ⟨ρ1, e1, h⟩ := R.of_bind h
    obtain ⟨⟨b, ρ2⟩, e2, h⟩ := R.of_bind h
    cases b with
    | true =>
      rw [if_pos rfl] at h
      obtain ⟨q, e3, h⟩ := R.of_bind h
      obtain ⟨r, e4, h⟩ := R.of_bind h
      obtain ⟨z, e5, h⟩ := R.of_bind h
      cases h
      have := loopC_len e5
      simp only [List.length_cons]
      omega
    | false =>
      rw [if_neg Bool.false_ne_true] at h
      have := loopC_len h
      simp only [List.length_cons]
      omega
@[simp] def mYes (ρ : Ro) : R (Bool × Ro) := .ok (true, ρ)
section
variable {X : Cx} {elt tg iter : Expr} {ifs : List Expr} {scope : Scope} {pos : Pos} {is : List Nat} {mi : M (List PyData)} {g : PyData → Ro → R Ro} {t : M Bool} {me : M Hd}
theorem pts_imp {es : List Expr} {a b : TT} (h : PTs X es a) (k : ∀ σ H Q, b σ H Q → a σ H Q) : PTs X es b := ⟨fun pins s σ H Q I q => h.run pins s σ H Q I (k σ H Q q)⟩
theorem sts_nil : PTs X [] (TB X.tri mYes) := pts_imp pts_nil fun σ H Q ⟨fm, G, ρ, b, ρ', rp, e, k⟩ => by
  cases e
  exact k G H (Ex.refl G) rp
theorem sts_one {c : Expr} (h : PT X c (TB X.tri t)) : PTs X [c] (TB X.tri t) := pts_one h
theorem lc_to {vs : List Nat} (his : ∀ i ∈ is, i ∈ vs) : ∀ σ H Q, TL X.tri (mLc mi g t me vs) σ H Q → tLc (TI' X.tri mi) (TG' X.tri is g) (TB X.tri t) (TM X.tri me) vs σ H Q := fun σ H Q ⟨fm, G, ρ, xs, ρ', rp, e, k⟩ => by
  obtain ⟨⟨items, ρ1⟩, e1, e⟩ := R.of_bind e
  obtain ⟨hc, e⟩ := chk_ok e
  obtain ⟨⟨zs, ρw⟩, e2, e⟩ := R.of_bind e
  cases e
  rw [Bool.and_eq_true] at hc
  obtain ⟨hpl, hbig⟩ := hc
  have hbig : items.length ≤ big := of_decide_eq_true hbig
  refine ⟨fm, G, ρ, items, ρ1, rp, e1, fun J G1 H1 x1 rp1 itd D hD => ?_⟩
  have fD : fm.F D = none := fresh_back rp1.fh hD
  have lD : fm.L D = none := fresh_back rp1.lh hD
  refine ⟨fun i m H2 => m = items.length - i ∧ i ≤ items.length ∧ ∃ G2 ρ2 acc ds rest, Ex G1 G2 ∧ Rp X.tri ⟨upd fm.F D (.lst acc), fm.L, fm.B⟩ G2 H2 (wipe σ vs) ρ2 ∧ DpAll X.tri.K G2 acc ds ∧ acc.length ≤ i ∧ loopC g t me vs (items.drop i) ρ2 = .ok (rest, ρw) ∧ zs = ds ++ rest,
    ⟨items.length, by simp, Nat.zero_le _, G1, _, [], [], zs, Ex.refl G1, (rp1.make hD).wiped vs (plain_pins (fm := fm) rp1 hpl), .nil, Nat.zero_le _, e2, rfl⟩, ?_⟩
  rintro i m H2 ⟨rfl, hi, G2, ρ2, acc, ds, rest, x2, rp2, da, hal, e3, ez⟩
  by_cases hlt : i < items.length
  · refine .inr ⟨itd.go i G2 H2 _ ρ2 ⟨upd fm.F D (.lst acc), fm.L, fm.B⟩ (Ex.refl fm.L) x2 rp2 hlt, fun H' => ∃ G2 ρ2 acc ds rest, Ex G1 G2 ∧ Rp X.tri ⟨upd fm.F D (.lst acc), fm.L, fm.B⟩ G2 H' (wipe σ vs) ρ2 ∧ DpAll X.tri.K G2 acc ds ∧ acc.length ≤ i + 1 ∧ loopC g t me vs (items.drop (i + 1)) ρ2 = .ok (rest, ρw) ∧ zs = ds ++ rest, fun H' q => ⟨items.length - (i + 1), by omega, rfl, by omega, q⟩, fun x H3 y => ?_⟩
    obtain ⟨d, G3, hd, x3, rp3, dp3⟩ := itd.yld i G2 H2 _ ρ2 ⟨upd fm.F D (.lst acc), fm.L, fm.B⟩ x H3 (Ex.refl fm.L) x2 rp2 hlt y
    have hdr : items.drop i = d :: items.drop (i + 1) := by
      rw [List.drop_eq_getElem_cons hlt]
      congr 1
      rw [List.getElem?_eq_getElem hlt] at hd
      exact Option.some.inj hd
    rw [hdr] at e3
    obtain ⟨ρ3, e4, e3⟩ := R.of_bind e3
    obtain ⟨⟨b, ρ4⟩, e5, e3⟩ := R.of_bind e3
    refine ⟨_, G3, ρ2, d, ρ3, rp3, dp3, e4, fun σ2 rp4 hbut => ⟨wipe_but his hbut, _, G3, ρ3, b, ρ4, rp4, e5, fun G5 H5 x5 rp5 => ?_⟩⟩
    have hw : wipe σ2 vs = wipe σ vs := wipe_but his hbut
    cases b with
    | true =>
      rw [if_pos rfl] at e3
      refine iteT ?_
      obtain ⟨⟨h, ρ5⟩, e6, e3⟩ := R.of_bind e3
      obtain ⟨⟨dx, ρ6⟩, e7, e3⟩ := R.of_bind e3
      obtain ⟨⟨zr, ρ7⟩, e8, e3⟩ := R.of_bind e3
      cases e3
      refine ⟨_, G5, ρ4, h, ρ5, rp5, e6, fun v G6 H6 x6 rp6 hv => ?_⟩
      obtain ⟨G7, x7, rp7, dv⟩ := fz_ok rp6 hv e7
      have xx := (x3.trans x5).trans (x6.trans x7)
      have hDk : H6 D = some (.lst acc) := rp7.fh D _ upd_same
      refine ⟨acc, hDk, big_lt (by omega), G7, _, acc ++ [v], ds ++ [dx], zr, x2.trans xx, ?_, dpa_app (dpa_mono xx da) (dpa_one dv), by rw [List.length_append]; simp only [List.length_singleton]; omega, e8, by rw [ez, List.append_assoc]; rfl⟩
      have r8 := (rp7.more (oo' := .lst (acc ++ [v])) lD).wiped vs (plain_pins (fm := fm) rp1 hpl)
      rw [hw] at r8
      exact r8
    | false =>
      rw [if_neg Bool.false_ne_true] at e3
      refine iteF ?_
      have xx := x3.trans x5
      refine ⟨G5, _, acc, ds, rest, x2.trans xx, ?_, dpa_mono xx da, by omega, e3, ez⟩
      have r8 := rp5.wiped vs (plain_pins (fm := fm) rp1 hpl)
      rw [hw] at r8
      exact r8
  · have ei : i = items.length := by omega
    subst ei
    rw [List.drop_length] at e3
    cases e3
    refine .inl ⟨itd.stop G2 H2 _ _ ⟨upd fm.F D (.lst acc), fm.L, fm.B⟩ (Ex.refl fm.L) x2 rp2, ?_⟩
    obtain ⟨r9, hDk, gD, ow⟩ := rp2.made' fD
    have r10 := Rp.back (H := H2) rp1 x2 r9
    rw [List.append_nil] at ez
    rw [ez] at k
    refine k (.ref D) G2 H2 (x1.trans x2) r10 ⟨D, acc, rfl, fD, lD, gD, hDk, da, fun j sv hj oj z => ?_⟩
    by_cases hjv : j ∈ vs
    · obtain ⟨d, rfl, _⟩ := backR_in ρ1 _ vs hjv hj
      exact oj
    · rw [backR_at _ _ vs hjv] at hj
      exact ow j sv hj oj (by rw [wipe_at σ vs hjv]; exact z)
theorem slc {own : List (Str × Nat)} (c : Cxo X) (hN : X.N.Nodup) (hi : PI X tg iter (TI' X.tri mi)) (ok : BlkOk X.N X.env.scope scope own)
    (hg : ∀ (s : Shared) (H : Hp) (C : Addr) (cl : List (Str × Addr)) (fp : List Addr), PG (X.blk s H scope (compEnvC scope cl C X.env) fp) tg (TG' X.tri is g)) (ht : ∀ (s : Shared) (H : Hp) (C : Addr) (cl : List (Str × Addr)) (fp : List Addr), PTs (X.blk s H scope (compEnvC scope cl C X.env) fp) ifs (TB X.tri t))
    (he : ∀ (s : Shared) (H : Hp) (C : Addr) (cl : List (Str × Addr)) (fp : List Addr), PE (X.blk s H scope (compEnvC scope cl C X.env) fp) elt (TM X.tri me)) (his : ∀ i ∈ is, i ∈ own.map (·.2) := by decide) (hs : ∀ x, foldedSetIterable iter X.env x = pure x := by intro _; rfl) :
    PE X (.ListComp elt [⟨tg, iter, ifs, 0⟩] scope pos) (TL X.tri (mLc mi g t me (own.map (·.2)))) := pe_imp (pe_lc c.calm hN hi ok hg ht he hs) (lc_to his)
/-- name = [..] -/
theorem ss_setLcL {i : Nat} {y : Str} {py spos : Pos} {own : List (Str × Nat)} (c : Cxo X) (hN : X.N.Nodup) (hi : PI X tg iter (TI' X.tri mi)) (ok : BlkOk X.N X.env.scope scope own)
    (hg : ∀ (s : Shared) (H : Hp) (C : Addr) (cl : List (Str × Addr)) (fp : List Addr), PG (X.blk s H scope (compEnvC scope cl C X.env) fp) tg (TG' X.tri is g)) (ht : ∀ (s : Shared) (H : Hp) (C : Addr) (cl : List (Str × Addr)) (fp : List Addr), PTs (X.blk s H scope (compEnvC scope cl C X.env) fp) ifs (TB X.tri t))
    (he : ∀ (s : Shared) (H : Hp) (C : Addr) (cl : List (Str × Addr)) (fp : List Addr), PE (X.blk s H scope (compEnvC scope cl C X.env) fp) elt (TM X.tri me)) (his : ∀ i ∈ is, i ∈ own.map (·.2) := by decide) (hy : X.N[i]? = some y := by rfl) (hyl : X.env.scope.names.lookup y = some .local := by rfl)
    (hsw : swapsWith (.ListComp elt [⟨tg, iter, ifs, 0⟩] scope pos) (some (.Name y py)) spos.line X.env = pure true := by exact sw_true rfl rfl rfl (by decide +kernel)) (hs : ∀ x, foldedSetIterable iter X.env x = pure x := by intro _; rfl) :
    PS X (.Assign [.Name y py] (.ListComp elt [⟨tg, iter, ifs, 0⟩] scope pos) spos) (TS' X.tri (mSetL i (mLc mi g t me (own.map (·.2))))) := ps_imp (ps_setLc c.calm hN hy hyl hsw hi ok hg ht he hs) (setl_to (lc_to his))
theorem dat_to {te : TE} {ml : M (List PyData)} (h : ∀ σ H Q, TL X.tri ml σ H Q → te σ H Q) : ∀ σ H Q, TM X.tri (mDat ml) σ H Q → te σ H Q := fun σ H Q ⟨fm, G, ρ, h', ρ', r, e, k⟩ => by
  obtain ⟨⟨xs, ρ1⟩, e1, e2⟩ := R.of_bind e
  cases e2
  refine h σ H Q ⟨fm, G, ρ, xs, ρ1, r, e1, fun v G' H' x r' n => ?_⟩
  obtain ⟨G2, x2, r2, d2⟩ := newl_fz r' n
  exact k v G2 H' (x.trans x2) r2 d2
theorem ss_setLc {i : Nat} {y : Str} {py spos : Pos} {own : List (Str × Nat)} (c : Cxo X) (hN : X.N.Nodup) (hi : PI X tg iter (TI' X.tri mi)) (ok : BlkOk X.N X.env.scope scope own)
    (hg : ∀ (s : Shared) (H : Hp) (C : Addr) (cl : List (Str × Addr)) (fp : List Addr), PG (X.blk s H scope (compEnvC scope cl C X.env) fp) tg (TG' X.tri is g)) (ht : ∀ (s : Shared) (H : Hp) (C : Addr) (cl : List (Str × Addr)) (fp : List Addr), PTs (X.blk s H scope (compEnvC scope cl C X.env) fp) ifs (TB X.tri t))
    (he : ∀ (s : Shared) (H : Hp) (C : Addr) (cl : List (Str × Addr)) (fp : List Addr), PE (X.blk s H scope (compEnvC scope cl C X.env) fp) elt (TM X.tri me)) (his : ∀ i ∈ is, i ∈ own.map (·.2) := by decide) (hy : X.N[i]? = some y := by rfl) (hyl : X.env.scope.names.lookup y = some .local := by rfl)
    (hsw : swapsWith (.ListComp elt [⟨tg, iter, ifs, 0⟩] scope pos) (some (.Name y py)) spos.line X.env = pure true := by exact sw_true rfl rfl rfl (by decide +kernel)) (hs : ∀ x, foldedSetIterable iter X.env x = pure x := by intro _; rfl) :
    PS X (.Assign [.Name y py] (.ListComp elt [⟨tg, iter, ifs, 0⟩] scope pos) spos) (TS' X.tri (mSet i (mDat (mLc mi g t me (own.map (·.2)))))) := ps_imp (ps_setLc c.calm hN hy hyl hsw hi ok hg ht he hs) (set_to (dat_to (lc_to his)))
end
end FM
/-! defs: their mirrors, their promises, their calls -/
namespace FM
open PySem PySem.Spec PyProof.Rows L2 Evl

def Disj (F G : Hp) : Prop := ∀ a, F a ≠ none → G a = none
/-! ### mirrors of defs -/
@[simp] def startR (n : Nat) (ds : List PyData) : Ro := ds.map (fun d => some (Sv.fz d)) ++ List.replicate (n - ds.length) none
@[simp] def bodyOf (n : Nat) (m : MS) (ds : List PyData) : R PyData := (m (startR n ds)).bind fun p => match p.1 with
  | .nx => .ok .none
  | .rt d => .ok d
  | _ => .bad
@[simp] def bodyL (n : Nat) (m : MS) (ds : List PyData) : R (List PyData) := (m (startR n ds)).bind fun p => match p.1 with
  | .rl xs => .ok xs
  | _ => .bad
/-- the r-th argument is a list that the def may change -/
@[simp] def bodyR (n r : Nat) (m : MS) (ds : List PyData) (xs : List PyData) : R (PyData × List PyData) := (m ((startR n (ds.insertIdx r .none)).set r (some (.ls .rf xs)))).bind fun p => match p.2[r]? with
  | some (some (.ob .rf (.ls ys))) => match p.1 with
    | .nx => .ok (.none, ys)
    | .rt d => .ok (d, ys)
    | _ => .bad
  | _ => .bad
/-! ### promises -/
def SpP (K : Tri) (n : Nat) (f : List PyData → R PyData) : Sp := fun vs H Q _ => ∃ F G ds d, Ex G H ∧ Ex F H ∧ Disj F G ∧ DpAll K.K G vs ds ∧ ds.length = n ∧ f ds = .ok d ∧
  ∀ v G' H', Ex G G' → Ex G' H' → Ex F H' → Disj F G' → Dp K.K G' v d → Q v H'
def SpL (K : Tri) (n : Nat) (f : List PyData → R (List PyData)) : Sp := fun vs H Q _ => ∃ F G ds xs, Ex G H ∧ Ex F H ∧ Disj F G ∧ DpAll K.K G vs ds ∧ ds.length = n ∧ f ds = .ok xs ∧
  ∀ p us G' H', Ex G G' → Ex G' H' → Ex F H' → Disj F G' → F p = none → G' p = none → H' p = some (.lst us) → DpAll K.K G' us xs → Q (.ref p) H'
def SpR (K : Tri) (n r : Nat) (f : List PyData → List PyData → R (PyData × List PyData)) : Sp := fun vs H Q _ => ∃ F G ds xs a us d ys, Ex G H ∧ Ex F H ∧ Disj F G ∧ vs.length = n ∧ vs[r]? = some (.ref a) ∧ DpAll K.K G (vs.eraseIdx r) ds ∧
  F a = none ∧ G a = none ∧ H a = some (.lst us) ∧ DpAll K.K G us xs ∧ f ds xs = .ok (d, ys) ∧
  ∀ v us' G' H', Ex G G' → Ex G' H' → Ex F H' → Disj F G' → G' a = none → H' a = some (.lst us') → DpAll K.K G' us' ys → Dp K.K G' v d → Q v H'
abbrev tri (P : Program) (w : World) (K : PySem.W.Frag) : Tri := ⟨P, w, K⟩
/-- what is known of a def of the text -/
structure Kn (P : Program) (w : World) (K : PySem.W.Frag) (mg : Str → Option Value) (base : Heap) (k : Nat) (x : Str) (st : Stmt) (ps : List Str) (sp : Sp) : Prop where
  ex : ∃ f fd, FnOk P w K mg base CX0 k f fd ps sp ∧ mg x = some (.ref f) ∧ Fun K x x st f fd ∧ Binds K fd ps []
def Df (K : PySem.W.Frag) (mg : Str → Option Value) (x : Str) (st : Stmt) : Prop := ∃ f fd, Fun K x x st f fd ∧ mg x = some (.ref f)
section
variable {P : Program} {w : World} {K : PySem.W.Frag} {mg : Str → Option Value} {base : Heap} {k j n r : Nat} {x : Str} {st : Stmt} {N ps : List Str}
theorem Kn.mono {sp : Sp} (h : Kn P w K mg base j x st ps sp) (hk : j ≤ k) : Kn P w K mg base k x st ps sp := by
  obtain ⟨f, fd, a, b, c, d⟩ := h.ex
  exact ⟨f, fd, a.mono hk, b, c, d⟩
theorem cxo_of {qual : Str} {scope : Scope} {f : Addr} {cdv : Value} {A : Around} {outer : List PySem.Env} {s : Shared} {H : Hp} {E : XK} (hr : Room k (A.deeper (envOfC qual scope s.heap.objs.size f cdv))) :
    Cxo (cxOf CX0 P w K mg base N qual scope f cdv A outer s H E).nox := ⟨rfl, by have := hr.un; show (A.deeper (envOfC qual scope s.heap.objs.size f cdv)).units + 190 < cLine; omega⟩
theorem Cxo.blk {X : Cx} {s : Shared} {H : Hp} {scope : Scope} {cenv : PySem.Env} {fp : List Addr} (c : Cxo X) : Cxo (X.blk s H scope cenv fp) := ⟨c.calm, c.hu⟩
theorem dpa_none {G : Hp} {vs : List V} {ds : List PyData} : True := trivial
theorem start_get {vs : List V} {i : Nat} {v : V} (h : vs[i]? = some v) : (L2.start N vs)[i]? = some (some v) := by
  have hi : i < vs.length := (List.getElem?_eq_some_iff.mp h).1
  unfold L2.start
  rw [List.getElem?_append_left (by simpa using hi), List.getElem?_map, h]
  rfl
theorem startR_get {n : Nat} {ds : List PyData} {i : Nat} {sv : Sv} (h : (startR n ds)[i]? = some (some sv)) : ∃ d, ds[i]? = some d ∧ sv = .fz d := by
  unfold startR at h
  by_cases hi : i < ds.length
  · rw [List.getElem?_append_left (by simpa using hi), List.getElem?_map, List.getElem?_eq_getElem hi] at h
    cases h
    exact ⟨_, List.getElem?_eq_getElem hi, rfl⟩
  · rw [List.getElem?_append_right (by simp; omega), List.getElem?_replicate] at h
    split at h <;> cases h
theorem startR_len {n : Nat} {ds : List PyData} (h : ds.length ≤ n) : (startR n ds).length = n := by
  unfold startR
  rw [List.length_append, List.length_map, List.length_replicate]
  omega
theorem start_len {vs : List V} (h : vs.length ≤ N.length) : (L2.start N vs).length = N.length := by
  unfold L2.start
  rw [List.length_append, List.length_map, List.length_replicate]
  omega
theorem rp_start {F G H : Hp} {vs : List V} {ds : List PyData} (h1 : Ex G H) (h2 : Ex F H) (h3 : Disj F G) (da : DpAll K G vs ds) (hn : ds.length ≤ N.length) : Rp (tri P w K) ⟨F, fun _ => none, []⟩ G H (L2.start N vs) (startR N.length ds) where
  len := by rw [startR_len hn, start_len (by rw [dpa_len da]; exact hn)]
  gh := h1
  fh := h2
  fg := h3
  lh := fun a o h => nomatch h
  lg := fun a h => absurd rfl h
  sl := fun i sv h => by
    obtain ⟨d, h4, rfl⟩ := startR_get h
    obtain ⟨v, h5, h6⟩ := dpa_at da h4
    exact ⟨v, start_get h5, h6⟩
  ap := fun i j a s1 s2 h1 o1 _ _ _ _ => by
    obtain ⟨d, _, rfl⟩ := startR_get h1
    exact o1.elim
  pin := fun p hp => nomatch hp
theorem kn_pure (D : Df K mg x st) (S : FnScope N ps (defScope st)) (hn : ps.length = n) (hp : ps.length ≤ N.length) {m : MS}
    (hbd : ∀ (kV doc pm : Value) (an : Option Addr) (cdv ct : Value) (us : List Value), us.length = ps.length → bindArgs (PySem.W.fnOf x x (defArgs st) (defBody st) (defScope st) .none kV doc pm an cdv ct) ⟨us, []⟩ = pure (ps.zip us))
    (hb : ∀ (f : Addr) (cdv : Value) (A : Around) (outer : List PySem.Env) (s : Shared) (H : Hp) (E : XK), Room k (A.deeper (envOfC x (defScope st) s.heap.objs.size f cdv)) → PSs (cxOf CX0 P w K mg base N x (defScope st) f cdv A outer s H E).nox (defBody st) (TS' (tri P w K) m)) :
    Kn P w K mg base (k + 1) x st ps (SpP (tri P w K) n (bodyOf N.length m)) := by
  obtain ⟨f, fd, F, g⟩ := D
  refine ⟨f, fd, F.ok S (fun vs H Q E ⟨F', G, ds, d, _, _, _, da, hl, _⟩ => ?_) (fun cdv A outer s H vs Q E hr ⟨F', G, ds, d, h1, h2, h3, da, hl, e, q⟩ => ?_), g, F, F.binds hbd⟩
  · rw [dpa_len da, hl, hn]
  · refine ⟨_, hb f cdv A outer s H E hr, ?_⟩
    obtain ⟨⟨fl, ρ'⟩, e1, e⟩ := R.of_bind e
    refine ⟨_, G, _, fl, ρ', rp_start (P := P) (w := w) (K := K) h1 h2 h3 da (by rw [hl, ← hn]; exact hp), e1, fun G' H' σ' x rp' => ?_⟩
    cases fl with
    | nx =>
      cases e
      exact q .non G' H' x rp'.gh rp'.fh rp'.fg .non
    | rt d' =>
      cases e
      exact fun v hv => q v G' H' x rp'.gh rp'.fh rp'.fg hv
    | bk => cases e
    | ct => cases e
    | rl xs => cases e
theorem kn_list (D : Df K mg x st) (S : FnScope N ps (defScope st)) (hn : ps.length = n) (hp : ps.length ≤ N.length) {m : MS}
    (hbd : ∀ (kV doc pm : Value) (an : Option Addr) (cdv ct : Value) (us : List Value), us.length = ps.length → bindArgs (PySem.W.fnOf x x (defArgs st) (defBody st) (defScope st) .none kV doc pm an cdv ct) ⟨us, []⟩ = pure (ps.zip us))
    (hb : ∀ (f : Addr) (cdv : Value) (A : Around) (outer : List PySem.Env) (s : Shared) (H : Hp) (E : XK), Room k (A.deeper (envOfC x (defScope st) s.heap.objs.size f cdv)) → PSs (cxOf CX0 P w K mg base N x (defScope st) f cdv A outer s H E).nox (defBody st) (TS' (tri P w K) m)) :
    Kn P w K mg base (k + 1) x st ps (SpL (tri P w K) n (bodyL N.length m)) := by
  obtain ⟨f, fd, F, g⟩ := D
  refine ⟨f, fd, F.ok S (fun vs H Q E ⟨F', G, ds, d, _, _, _, da, hl, _⟩ => ?_) (fun cdv A outer s H vs Q E hr ⟨F', G, ds, d, h1, h2, h3, da, hl, e, q⟩ => ?_), g, F, F.binds hbd⟩
  · rw [dpa_len da, hl, hn]
  · refine ⟨_, hb f cdv A outer s H E hr, ?_⟩
    obtain ⟨⟨fl, ρ'⟩, e1, e⟩ := R.of_bind e
    refine ⟨_, G, _, fl, ρ', rp_start (P := P) (w := w) (K := K) h1 h2 h3 da (by rw [hl, ← hn]; exact hp), e1, fun G' H' σ' x rp' => ?_⟩
    cases fl with
    | nx => cases e
    | rt d' => cases e
    | bk => cases e
    | ct => cases e
    | rl xs =>
      cases e
      intro v ⟨p, us, ev, fp, lp, gp, hp, dp, ow⟩
      subst ev
      exact q p us G' H' x rp'.gh rp'.fh rp'.fg fp gp hp dp
theorem dpa_insert {G : Hp} {v : V} {d : PyData} : ∀ {r : Nat} {vs : List V} {ds : List PyData}, r < vs.length → vs[r]? = some v → Dp K G v d → DpAll K G (vs.eraseIdx r) ds → DpAll K G vs (ds.insertIdx r d)
  | 0, w :: vs, ds, _, h, hd, a => by
    cases h
    exact .cons hd a
  | r + 1, w :: vs, _, h, h2, hd, .cons g a => .cons g (dpa_insert (r := r) (by simpa using h) (by simpa using h2) hd a)
theorem kn_ref (D : Df K mg x st) (S : FnScope N ps (defScope st)) (hn : ps.length = n) (hp : ps.length ≤ N.length) (hrn : r < n) {m : MS}
    (hbd : ∀ (kV doc pm : Value) (an : Option Addr) (cdv ct : Value) (us : List Value), us.length = ps.length → bindArgs (PySem.W.fnOf x x (defArgs st) (defBody st) (defScope st) .none kV doc pm an cdv ct) ⟨us, []⟩ = pure (ps.zip us))
    (hb : ∀ (f : Addr) (cdv : Value) (A : Around) (outer : List PySem.Env) (s : Shared) (H : Hp) (E : XK), Room k (A.deeper (envOfC x (defScope st) s.heap.objs.size f cdv)) → PSs (cxOf CX0 P w K mg base N x (defScope st) f cdv A outer s H E).nox (defBody st) (TS' (tri P w K) m)) :
    Kn P w K mg base (k + 1) x st ps (SpR (tri P w K) n r (bodyR N.length r m)) := by
  obtain ⟨f, fd, F, g⟩ := D
  refine ⟨f, fd, F.ok S (fun vs H Q E ⟨F', G, ds, xs, a, us, d, ys, _, _, _, hl, _⟩ => ?_) (fun cdv A outer s H vs Q E hr ⟨F', G, ds, xs, a, us, d, ys, h1, h2, h3, hl, har, da, fa, ga, ha, dx, e, q⟩ => ?_), g, F, F.binds hbd⟩
  · rw [hl, hn]
  · refine ⟨_, hb f cdv A outer s H E hr, ?_⟩
    obtain ⟨⟨fl, ρ'⟩, e1, e⟩ := R.of_bind e
    have hrv : r < vs.length := by omega
    have hdl : ds.length = vs.length - 1 := by rw [← dpa_len da, List.length_eraseIdx, if_pos hrv]
    have hil : (ds.insertIdx r PyData.none).length = n := by
      rw [List.length_insertIdx, if_pos (by omega)]
      omega
    have hnn : n ≤ N.length := by omega
    have get : ∀ (i : Nat) (sv : Sv), ((startR N.length (ds.insertIdx r .none)).set r (some (.ls .rf xs)))[i]? = some (some sv) → (i = r ∧ sv = .ls .rf xs) ∨ (i ≠ r ∧ ∃ d v, sv = .fz d ∧ vs[i]? = some v ∧ Dp K G v d) := fun i sv hi => by
      by_cases ei : i = r
      · subst ei
        rw [List.getElem?_set_self (by rw [startR_len (by omega)]; omega)] at hi
        cases hi
        exact .inl ⟨rfl, rfl⟩
      · rw [List.getElem?_set_ne (Ne.symm ei)] at hi
        obtain ⟨d', h4, rfl⟩ := startR_get hi
        refine .inr ⟨ei, d', ?_⟩
        have hcase : i < r ∨ r < i := by omega
        rcases hcase with hc | hc
        · rw [List.getElem?_insertIdx_of_lt hc] at h4
          obtain ⟨v, h5, h6⟩ := dpa_at da h4
          rw [List.getElem?_eraseIdx_of_lt hc] at h5
          exact ⟨v, rfl, h5, h6⟩
        · rw [List.getElem?_insertIdx_of_gt hc] at h4
          obtain ⟨v, h5, h6⟩ := dpa_at da h4
          rw [List.getElem?_eraseIdx_of_ge (by omega)] at h5
          exact ⟨v, rfl, by rw [← h5]; congr 1; omega, h6⟩
    have rp0 : Rp (tri P w K) ⟨F', fun _ => none, [(r, a)]⟩ G H (L2.start N vs) ((startR N.length (ds.insertIdx r .none)).set r (some (.ls .rf xs))) := by
      refine ⟨by rw [List.length_set, startR_len (by omega), start_len (by omega)], h1, h2, h3, fun a o h => (nomatch h), fun a h => absurd rfl h, fun i sv hi => ?_, fun i j b s1 s2 g1 o1 g2 o2 _ _ => ?_, fun p hp => ?_⟩
      · rcases get i sv hi with ⟨rfl, rfl⟩ | ⟨_, d', v, rfl, h5, h6⟩
        · exact ⟨_, start_get har, a, _, rfl, ga, fa, rfl, ha, trivial, us, rfl, dx⟩
        · exact ⟨v, start_get h5, h6⟩
      · rcases get i s1 g1 with ⟨rfl, rfl⟩ | ⟨_, d', v, rfl, _, _⟩
        · rcases get j s2 g2 with ⟨rfl, rfl⟩ | ⟨_, d', v, rfl, _, _⟩
          · rfl
          · exact o2.elim
        · exact o1.elim
      · rcases List.mem_cons.mp hp with rfl | hp
        · exact ⟨start_get har, .ls .rf xs, List.getElem?_set_self (by rw [startR_len (by omega)]; omega), trivial⟩
        · cases hp
    refine ⟨_, G, _, fl, ρ', rp0, e1, fun G' H' σ' x rp' => ?_⟩
    obtain ⟨hv, _⟩ := rp'.pin (r, a) List.mem_cons_self
    have hv : σ'[r]? = some (some (V.ref a)) := hv
    dsimp only at e
    split at e
    · rename_i zs hz
      obtain ⟨v, hv2, b, o', eb, gb, fb, lb, hb', _, us', eo, db⟩ := rp'.sl r _ hz
      subst eo
      rw [hv] at hv2
      injection hv2 with hv2
      injection hv2 with hv2
      subst hv2
      injection eb with eb
      subst eb
      cases fl with
      | nx =>
        cases e
        exact q .non us' G' H' x rp'.gh rp'.fh rp'.fg gb hb' db .non
      | rt d' =>
        cases e
        exact fun v hv => q v us' G' H' x rp'.gh rp'.fh rp'.fg gb hb' db hv
      | bk => cases e
      | ct => cases e
      | rl xs => cases e
    · cases e
/-- nothing is promised -/
theorem kn_bad (D : Df K mg x st) (hbd : ∀ (kV doc pm : Value) (an : Option Addr) (cdv ct : Value) (us : List Value), us.length = ps.length → bindArgs (PySem.W.fnOf x x (defArgs st) (defBody st) (defScope st) .none kV doc pm an cdv ct) ⟨us, []⟩ = pure (ps.zip us)) :
    Kn P w K mg base k x st ps (SpP (tri P w K) n fun _ => .bad) := by
  obtain ⟨f, fd, F, g⟩ := D
  exact ⟨f, fd, ⟨fun vs H Q E ⟨_, _, _, _, _, _, _, _, _, e, _⟩ => (nomatch e), fun _ _ _ _ _ _ _ _ _ _ _ _ _ ⟨_, _, _, _, _, _, _, _, _, e, _⟩ => (nomatch e)⟩, g, F, F.binds hbd⟩
theorem kn_badR (D : Df K mg x st) (hbd : ∀ (kV doc pm : Value) (an : Option Addr) (cdv ct : Value) (us : List Value), us.length = ps.length → bindArgs (PySem.W.fnOf x x (defArgs st) (defBody st) (defScope st) .none kV doc pm an cdv ct) ⟨us, []⟩ = pure (ps.zip us)) :
    Kn P w K mg base k x st ps (SpR (tri P w K) n r fun _ _ => .bad) := by
  obtain ⟨f, fd, F, g⟩ := D
  exact ⟨f, fd, ⟨fun vs H Q E ⟨_, _, _, _, _, _, _, _, _, _, _, _, _, _, _, _, _, _, e, _⟩ => (nomatch e), fun _ _ _ _ _ _ _ _ _ _ _ _ _ ⟨_, _, _, _, _, _, _, _, _, _, _, _, _, _, _, _, _, _, e, _⟩ => (nomatch e)⟩, g, F, F.binds hbd⟩
end

/-! ### calls -/
open Classical in
/-- what a callee leaves alone: the frame, what is lent, the caller's lists -/
noncomputable def guard (fm : Fm) (H : Hp) (σ : L2.St) (ρ : Ro) (but : Option Addr) : Hp := fun a => match fm.F a with
  | some o => some o
  | none => match fm.L a with
    | some o => some o
    | none => if some a ≠ but ∧ ∃ (i : Nat) (sv : Sv), ρ[i]? = some (some sv) ∧ Sv.owned sv ∧ σ[i]? = some (some (V.ref a)) then H a else none
section
variable {K : Tri} {fm : Fm} {G G' H H' : Hp} {σ : L2.St} {ρ : Ro} {but : Option Addr}
theorem guard_F {a : Addr} {o : HO} (h : fm.F a = some o) : guard fm H σ ρ but a = some o := by
  unfold guard
  rw [h]
theorem guard_L (r : Rp K fm G H σ ρ) {a : Addr} {o : HO} (h : fm.L a = some o) : guard fm H σ ρ but a = some o := by
  unfold guard
  cases q : fm.F a with
  | some u =>
    have h1 := r.fh a u q
    have h2 := r.lh a o h
    rw [h1] at h2
    exact h2
  | none =>
    dsimp only
    rw [h]
theorem guard_own (r : Rp K fm G H σ ρ) {a : Addr} {i : Nat} {sv : Sv} (h1 : ρ[i]? = some (some sv)) (h2 : Sv.owned sv) (h3 : σ[i]? = some (some (V.ref a))) (hb : some a ≠ but) : guard fm H σ ρ but a = H a := by
  unfold guard
  cases q : fm.F a with
  | some u => exact (r.fh a u q).symm
  | none =>
    dsimp only
    cases q2 : fm.L a with
    | some u => exact (r.lh a u q2).symm
    | none =>
      dsimp only
      rw [if_pos ⟨hb, i, sv, h1, h2, h3⟩]
theorem guard_ex (r : Rp K fm G H σ ρ) : Ex (guard fm H σ ρ but) H := fun a o h => by
  unfold guard at h
  cases q : fm.F a with
  | some u =>
    rw [q] at h
    cases h
    exact r.fh a _ q
  | none =>
    rw [q] at h
    dsimp only at h
    cases q2 : fm.L a with
    | some u =>
      rw [q2] at h
      cases h
      exact r.lh a _ q2
    | none =>
      rw [q2] at h
      dsimp only at h
      split at h
      · exact h
      · cases h
theorem guard_disj (r : Rp K fm G H σ ρ) : Disj (guard fm H σ ρ but) G := fun a h => by
  unfold guard at h
  cases q : fm.F a with
  | some u => exact r.fg a (by rw [q]; exact fun z => nomatch z)
  | none =>
    rw [q] at h
    dsimp only at h
    cases q2 : fm.L a with
    | some u => exact r.lg a (by rw [q2]; exact fun z => nomatch z)
    | none =>
      rw [q2] at h
      dsimp only at h
      split at h
      · rename_i hc
        obtain ⟨_, i, sv, h1, h2, h3⟩ := hc
        obtain ⟨v, h4, h5⟩ := r.sl i sv h1
        rw [h3] at h4
        injection h4 with h4
        injection h4 with h4
        subst h4
        cases sv with
        | fz d => exact h2.elim
        | ob k c =>
          obtain ⟨b, us, e, gb, _⟩ := h5
          cases e
          exact gb
      · exact absurd rfl h
/-- behind a call -/
theorem Rp.called (r : Rp K fm G H σ ρ) (x : Ex G G') (h1 : Ex G' H') (h2 : Ex (guard fm H σ ρ none) H') (h3 : Disj (guard fm H σ ρ none) G') : Rp K fm G' H' σ ρ where
  len := r.len
  gh := h1
  fh := fun a o h => h2 a o (guard_F h)
  fg := fun a h => by
    cases q : fm.F a with
    | none => exact absurd q h
    | some u => exact h3 a (by rw [guard_F q]; exact fun z => nomatch z)
  lh := fun a o h => h2 a o (guard_L r h)
  lg := fun a h => by
    cases q : fm.L a with
    | none => exact absurd q h
    | some u => exact h3 a (by rw [guard_L r q]; exact fun z => nomatch z)
  sl := fun i sv h => by
    obtain ⟨v, h4, h5⟩ := r.sl i sv h
    refine ⟨v, h4, ?_⟩
    cases sv with
    | fz d => exact dp_mono x h5
    | ob k c =>
      obtain ⟨a, us, rfl, ga, fa, la, ha, mo, da⟩ := h5
      have e : guard fm H σ ρ none a = some us := (guard_own (but := none) r h trivial h4 (fun z => nomatch z)).trans ha
      exact ⟨a, us, rfl, h3 a (by rw [e]; exact fun z => nomatch z), fa, la, h2 a _ e, mo, ct_mono x da⟩
  ap := r.ap
  pin := r.pin
end
@[simp] def mCall (f : List PyData → R PyData) (ms : M (List Hd)) (ρ : Ro) : R (Hd × Ro) := (ms ρ).bind fun p => (fzs p.1 p.2).bind fun q => (f q.1).bind fun d => .ok (.dat d, q.2)
@[simp] def mCall0 (f : List PyData → R PyData) (ρ : Ro) : R (Hd × Ro) := (f []).bind fun d => .ok (.dat d, ρ)
@[simp] def mCallL (f : List PyData → R (List PyData)) (ms : M (List Hd)) (ρ : Ro) : R (List PyData × Ro) := (ms ρ).bind fun p => (fzs p.1 p.2).bind fun q => (f q.1).bind fun xs => .ok (xs, q.2)
/-- the r-th argument is a slot's list, which the callee may change -/
@[simp] def mCallR (r : Nat) (f : List PyData → List PyData → R (PyData × List PyData)) (ms : M (List Hd)) (ρ : Ro) : R (Hd × Ro) := (ms ρ).bind fun p => match p.1[r]? with
  | some (.slot i) => (fzs (p.1.eraseIdx r) p.2).bind fun q => (lsAt i q.2).bind fun l => (f q.1 l.2).bind fun z => .ok (.dat z.1, putL i l.1 z.2 q.2)
  | _ => .bad
/-- the one argument is a new list -/
@[simp] def mCallN (f : List PyData → List PyData → R (PyData × List PyData)) (m : M (List PyData)) (ρ : Ro) : R (Hd × Ro) := (m ρ).bind fun p => (f [] p.1).bind fun z => .ok (.dat z.1, p.2)
section
variable {X : Cx} {k n r : Nat} {x : Str} {st : Stmt} {ps : List Str} {p pos : Pos} {e : Expr} {es : List Expr} {ms : M (List Hd)}
theorem se_call {f : List PyData → R PyData} (F : Kn X.prog X.w X.K X.mg X.base k x st ps (SpP X.tri n f)) (hr : Room k X.A) (ha : PA X (e :: es) (TAs X.tri ms)) (hn : (e :: es).length = n := by rfl) (hg : Gl X x := by rfl) (hdb : (x == ("__debug__" : Str)) = false := by rfl)
    (he : starEach (e :: es) X.env = (false, eval e X.env) :: starEach es X.env := by rfl) (hpl : (backTo pos (starEach es X.env)).any (·.1) = false := by rfl) : PE X (.Call (.Name x p) (e :: es) [] pos) (TM X.tri (mCall (fun ds => chk (ds.length = n) (f ds)) ms)) := by
  obtain ⟨fa, fd, F, g, Fu, hb⟩ := F.ex
  refine pe_imp (pe_call F hr hg g Fu.kp hb .nil pass0 ha hdb he hpl) fun σ H Q ⟨fm, G, ρ, h, ρ', rp, e, k⟩ => ?_
  obtain ⟨⟨hs, ρ1⟩, e1, e⟩ := R.of_bind e
  obtain ⟨⟨ds, ρ2⟩, e2, e⟩ := R.of_bind e
  obtain ⟨d, e3, e⟩ := R.of_bind e
  cases e
  obtain ⟨hl, e3⟩ := chk_ok e3
  refine ⟨fm, G, ρ, hs, ρ1, rp, e1, fun vs G1 H1 x1 rp1 hv => ?_⟩
  obtain ⟨G2, x2, rp2, da⟩ := fzs_ok rp1 hv e2
  rw [List.append_nil]
  exact ⟨guard fm H1 σ ρ2 none, G2, ds, d, rp2.gh, guard_ex rp2, guard_disj rp2, da, hl, e3, fun v G' H' x' h1 h2 h3 hd => k v G' H' ((x1.trans x2).trans x') (rp2.called x' h1 h2 h3) hd⟩
theorem sl_call {f : List PyData → R (List PyData)} (F : Kn X.prog X.w X.K X.mg X.base k x st ps (SpL X.tri n f)) (hr : Room k X.A) (ha : PA X (e :: es) (TAs X.tri ms)) (hg : Gl X x := by rfl) (hdb : (x == ("__debug__" : Str)) = false := by rfl)
    (he : starEach (e :: es) X.env = (false, eval e X.env) :: starEach es X.env := by rfl) (hpl : (backTo pos (starEach es X.env)).any (·.1) = false := by rfl) : PE X (.Call (.Name x p) (e :: es) [] pos) (TL X.tri (mCallL (fun ds => chk (ds.length = n) (f ds)) ms)) := by
  obtain ⟨fa, fd, F, g, Fu, hb⟩ := F.ex
  refine pe_imp (pe_call F hr hg g Fu.kp hb .nil pass0 ha hdb he hpl) fun σ H Q ⟨fm, G, ρ, h, ρ', rp, e, k⟩ => ?_
  obtain ⟨⟨hs, ρ1⟩, e1, e⟩ := R.of_bind e
  obtain ⟨⟨ds, ρ2⟩, e2, e⟩ := R.of_bind e
  obtain ⟨d, e3, e⟩ := R.of_bind e
  cases e
  obtain ⟨hl, e3⟩ := chk_ok e3
  refine ⟨fm, G, ρ, hs, ρ1, rp, e1, fun vs G1 H1 x1 rp1 hv => ?_⟩
  obtain ⟨G2, x2, rp2, da⟩ := fzs_ok rp1 hv e2
  rw [List.append_nil]
  refine ⟨guard fm H1 σ ρ2 none, G2, ds, _, rp2.gh, guard_ex rp2, guard_disj rp2, da, hl, e3, fun q us G' H' x' h1 h2 h3 fp gp hp dp => k _ G' H' ((x1.trans x2).trans x') (rp2.called x' h1 h2 h3) ⟨q, us, rfl, ?_, ?_, gp, hp, dp, fun i sv hi oi z => ?_⟩⟩
  · cases q1 : fm.F q with
    | none => rfl
    | some o =>
      rw [guard_F q1] at fp
      cases fp
  · cases q1 : fm.L q with
    | none => rfl
    | some o =>
      rw [guard_L rp2 q1] at fp
      cases fp
  · rw [guard_own (but := none) rp2 hi oi z (fun z => nomatch z)] at fp
    obtain ⟨v, h4, h5⟩ := rp2.sl i sv hi
    rw [z] at h4
    injection h4 with h4
    injection h4 with h4
    subst h4
    cases sv with
    | fz d => exact oi
    | ob k c =>
      obtain ⟨b, us, eb, _, _, _, hb, _⟩ := h5
      cases eb
      rw [hb] at fp
      cases fp
theorem relhs_get {K : Tri} {G : Hp} {σ : L2.St} : ∀ {vs : List V} {hs : List Hd} {r : Nat} {h : Hd}, RelHs K G σ vs hs → hs[r]? = some h → ∃ v, vs[r]? = some v ∧ RelH K G σ v h
  | _, _, _, _, .nil, e => by simp at e
  | _, _, 0, h, .cons a _, e => by
    simp at e
    subst e
    exact ⟨_, rfl, a⟩
  | _, _, r + 1, h, .cons _ b, e => by
    obtain ⟨v, h1, h2⟩ := relhs_get (r := r) (h := h) b (by simpa using e)
    exact ⟨v, by simpa using h1, h2⟩
theorem relhs_erase {K : Tri} {G : Hp} {σ : L2.St} : ∀ {vs : List V} {hs : List Hd} (r : Nat), RelHs K G σ vs hs → RelHs K G σ (vs.eraseIdx r) (hs.eraseIdx r)
  | _, _, _, .nil => .nil
  | _, _, 0, .cons _ b => b
  | _, _, r + 1, .cons a b => .cons a (relhs_erase r b)
/-- behind a call that may have changed the list at a -/
theorem rp_calledR {K : Tri} {fm : Fm} {G G' H H' : Hp} {σ : L2.St} {ρ : Ro} {i : Nat} {kk : LS} {xs ys : List PyData} {a : Addr} {us : List V} (r : Rp K fm G H σ ρ) (hs : ρ[i]? = some (some (.ls kk xs))) (hk : kk ≠ .lent) (hv : σ[i]? = some (some (V.ref a)))
    (x : Ex G G') (h1 : Ex G' H') (h2 : Ex (guard fm H σ ρ (some a)) H') (h3 : Disj (guard fm H σ ρ (some a)) G') (ga : G' a = none) (ha : H' a = some (.lst us)) (da : DpAll K.K G' us ys) : Rp K fm G' H' σ (putL i kk ys ρ) := by
  have hi : i < ρ.length := (List.getElem?_eq_some_iff.mp hs).1
  obtain ⟨v0, hv0, a0, us0, e0, ga0, fa0, la0, ha0, _, da0⟩ := r.sl i _ hs
  rw [hv] at hv0
  injection hv0 with hv0
  injection hv0 with hv0
  subst hv0
  injection e0 with e0
  subst e0
  refine ⟨by unfold putL; rw [List.length_set, r.len], h1, fun b o h => h2 b o (guard_F h), fun b h => ?_, fun b o h => h2 b o (guard_L r h), fun b h => ?_, fun j sv h => ?_, fun j l b s1 s2 g1 o1 g2 o2 g3 g4 => ?_, fun p hp => ?_⟩
  · cases q : fm.F b with
    | none => exact absurd q h
    | some u => exact h3 b (by rw [guard_F q]; exact fun z => nomatch z)
  · cases q : fm.L b with
    | none => exact absurd q h
    | some u => exact h3 b (by rw [guard_L r q]; exact fun z => nomatch z)
  · unfold putL at h
    by_cases ej : j = i
    · subst ej
      rw [List.getElem?_set_self hi] at h
      cases h
      exact ⟨_, hv, a, _, rfl, ga, fa0, by rw [if_neg hk] at la0 ⊢; exact la0, ha, trivial, us, rfl, da⟩
    · rw [List.getElem?_set_ne (Ne.symm ej)] at h
      obtain ⟨v, h4, h5⟩ := r.sl j sv h
      refine ⟨v, h4, ?_⟩
      cases sv with
      | fz d => exact dp_mono x h5
      | ob k2 c2 =>
        obtain ⟨b, ws, rfl, gb, fb, lb, hb, mb, db⟩ := h5
        have eb : b ≠ a := by
          rintro rfl
          exact ej (r.ap j i b _ _ h trivial hs trivial h4 hv)
        have e : guard fm H σ ρ (some a) b = some ws := (guard_own (but := some a) r h trivial h4 (fun z => eb (Option.some.inj z))).trans hb
        exact ⟨b, ws, rfl, h3 b (by rw [e]; exact fun z => nomatch z), fb, lb, h2 b _ e, mb, ct_mono x db⟩
  · have f1 : ∃ t : Sv, ρ[j]? = some (some t) ∧ Sv.owned t := by
      by_cases ej : j = i
      · exact ⟨Sv.ob kk (.ls xs), by rw [ej]; exact hs, trivial⟩
      · unfold putL at g1
        rw [List.getElem?_set_ne (Ne.symm ej)] at g1
        exact ⟨s1, g1, o1⟩
    have f2 : ∃ t : Sv, ρ[l]? = some (some t) ∧ Sv.owned t := by
      by_cases ej : l = i
      · exact ⟨Sv.ob kk (.ls xs), by rw [ej]; exact hs, trivial⟩
      · unfold putL at g2
        rw [List.getElem?_set_ne (Ne.symm ej)] at g2
        exact ⟨s2, g2, o2⟩
    obtain ⟨t1, g1', p1⟩ := f1
    obtain ⟨t2, g2', p2⟩ := f2
    exact r.ap j l b t1 t2 g1' p1 g2' p2 g3 g4
  · obtain ⟨q1, sv, q2, q3⟩ := r.pin p hp
    refine ⟨q1, ?_⟩
    unfold putL
    by_cases ep : p.1 = i
    · rw [ep] at q2 ⊢
      rw [hs] at q2
      cases q2
      refine ⟨_, List.getElem?_set_self hi, ?_⟩
      cases kk with
      | own => exact q3
      | rf => trivial
      | lent => trivial
    · exact ⟨sv, by rw [List.getElem?_set_ne (Ne.symm ep)]; exact q2, q3⟩
theorem guard_but {K : Tri} {fm : Fm} {G H : Hp} {σ : L2.St} {ρ : Ro} {a : Addr} (fa : fm.F a = none) (la : fm.L a = none) : guard fm H σ ρ (some a) a = none := by
  unfold guard
  rw [fa]
  dsimp only
  rw [la]
  dsimp only
  rw [if_neg fun z => z.1 rfl]
theorem se_callR {f : List PyData → List PyData → R (PyData × List PyData)} (F : Kn X.prog X.w X.K X.mg X.base k x st ps (SpR X.tri n r f)) (hr : Room k X.A) (ha : PA X (e :: es) (TAs X.tri ms)) (hg : Gl X x := by rfl) (hdb : (x == ("__debug__" : Str)) = false := by rfl)
    (he : starEach (e :: es) X.env = (false, eval e X.env) :: starEach es X.env := by rfl) (hpl : (backTo pos (starEach es X.env)).any (·.1) = false := by rfl) : PE X (.Call (.Name x p) (e :: es) [] pos) (TM X.tri (mCallR r (fun ds xs => chk (ds.length + 1 = n) (f ds xs)) ms)) := by
  obtain ⟨fa, fd, F, g, Fu, hb⟩ := F.ex
  refine pe_imp (pe_call F hr hg g Fu.kp hb .nil pass0 ha hdb he hpl) fun σ H Q ⟨fm, G, ρ, h, ρ', rp, e, k⟩ => ?_
  obtain ⟨⟨hs, ρ1⟩, e1, e⟩ := R.of_bind e
  dsimp only at e
  split at e
  · rename_i i hi
    obtain ⟨⟨ds, ρ2⟩, e2, e⟩ := R.of_bind e
    obtain ⟨⟨kk, xs⟩, e3, e⟩ := R.of_bind e
    obtain ⟨⟨d, ys⟩, e4, e⟩ := R.of_bind e
    cases e
    obtain ⟨hl, e4⟩ := chk_ok e4
    have hl : ds.length + 1 = n := hl
    refine ⟨fm, G, ρ, hs, ρ1, rp, e1, fun vs G1 H1 x1 rp1 hv => ?_⟩
    obtain ⟨v, hvr, hvs⟩ := relhs_get hv hi
    have hvs : σ[i]? = some (some v) := hvs
    obtain ⟨G2, x2, rp2, da⟩ := fzs_ok rp1 (relhs_erase r hv) e2
    obtain ⟨l1, l2⟩ := lsAt_ok e3
    obtain ⟨w, hw, a, o, ea, ga, fa', la, hha, _, us, eo, dx⟩ := rp2.sl i _ l1
    subst eo
    rw [hvs] at hw
    injection hw with hw
    injection hw with hw
    subst hw
    subst ea
    rw [if_neg l2] at la
    have hrl : r < vs.length := (List.getElem?_eq_some_iff.mp hvr).1
    have hlen : vs.length = n := by
      have := dpa_len da
      rw [List.length_eraseIdx, if_pos hrl] at this
      omega
    rw [List.append_nil]
    exact ⟨guard fm H1 σ ρ2 (some a), G2, ds, xs, a, us, d, ys, rp2.gh, guard_ex rp2, guard_disj rp2, hlen, hvr, da, guard_but (K := X.tri) (G := G2) fa' la, ga, hha, dx, e4, fun v us' G' H' x' h1 h2 h3 ga' ha' da' hd =>
      k v G' H' ((x1.trans x2).trans x') (rp_calledR rp2 l1 l2 hvs x' h1 h2 h3 ga' ha' da') hd⟩
  · cases e
theorem se_callN {f : List PyData → List PyData → R (PyData × List PyData)} {m : M (List PyData)} (F : Kn X.prog X.w X.K X.mg X.base k x st ps (SpR X.tri 1 0 f)) (hr : Room k X.A) (ha : PE X e (TL X.tri m)) (hg : Gl X x := by rfl) (hdb : (x == ("__debug__" : Str)) = false := by rfl)
    (he : starEach [e] X.env = (false, eval e X.env) :: starEach [] X.env := by rfl) (hpl : (backTo pos (starEach [] X.env)).any (·.1) = false := by rfl) : PE X (.Call (.Name x p) [e] [] pos) (TM X.tri (mCallN f m)) := by
  obtain ⟨fa, fd, F, g, Fu, hb⟩ := F.ex
  refine pe_imp (pe_call F hr hg g Fu.kp hb .nil pass0 (pa_cons ha pa_nil he) hdb he hpl) fun σ H Q ⟨fm, G, ρ, h, ρ', rp, e, k⟩ => ?_
  obtain ⟨⟨xs, ρ1⟩, e1, e⟩ := R.of_bind e
  obtain ⟨⟨d, ys⟩, e2, e⟩ := R.of_bind e
  cases e
  refine ⟨fm, G, ρ, xs, ρ1, rp, e1, fun v G1 H1 x1 rp1 hv => ?_⟩
  obtain ⟨q, us, rfl, fq, lq, gq, hq, dq, ow⟩ := hv
  have gn : guard fm H1 σ ρ1 none q = none := by
    unfold guard
    rw [fq]
    dsimp only
    rw [lq]
    dsimp only
    rw [if_neg]
    rintro ⟨_, i, sv, h1, h2, h3⟩
    exact ow i sv h1 h2 h3
  exact ⟨guard fm H1 σ ρ1 none, G1, [], xs, q, us, d, ys, rp1.gh, guard_ex rp1, guard_disj rp1, rfl, rfl, .nil, gn, gq, hq, dq, e2, fun v us' G' H' x' h1 h2 h3 ga' ha' da' hd => k v G' H' (x1.trans x') (rp1.called x' h1 h2 h3) hd⟩
/-- f(), no argument -/
theorem se_call0 {f : List PyData → R PyData} (F : Kn X.prog X.w X.K X.mg X.base k x st ps (SpP X.tri 0 f)) (hr : Room k X.A) (hg : Gl X x := by rfl) (hdb : (x == ("__debug__" : Str)) = false := by rfl) : PE X (.Call (.Name x p) [] [] pos) (TM X.tri (mCall0 f)) := by
  obtain ⟨fa, fd, F, g, Fu, hb⟩ := F.ex
  refine pe_imp (pe_call0 F hr hg g Fu.kp hb .nil pass0 hdb) fun σ H Q ⟨fm, G, ρ, h, ρ', rp, e, k⟩ => ?_
  obtain ⟨d, e3, e⟩ := R.of_bind e
  cases e
  exact ⟨guard fm H σ ρ none, G, [], d, rp.gh, guard_ex rp, guard_disj rp, .nil, rfl, e3, fun v G' H' x' h1 h2 h3 hd => k v G' H' x' (rp.called x' h1 h2 h3) hd⟩
end
end FM
/-! more: list + list, list * int, x or [..], sorted, keywords -/
namespace FM
open PySem PySem.Spec PyProof.Rows L2 Evl

/-! ### list + list -/
section
variable {X : Cx} {a b : Expr} {pos : Pos} {m n : M Hd}
def rCatD (K : PySem.W.Frag) : R2 := fun x y H Q => ∃ l b xs zs, x = .ref l ∧ y = .ref b ∧ SqL K H l xs ∧ SqL K H b zs ∧ xs.length + zs.length ≤ sizeLine ∧ ∀ p, H p = none → Q (.ref p) (upd H p (.lst (xs ++ zs)))
theorem op_catD : OpR X (binaryOp .Add) (rCatD X.K) := by
  intro pins s σ H x y v u Q I rx ry h
  obtain ⟨l, b, xs, zs, rfl, rfl, hl, hb, hz, q⟩ := h
  cases rx
  cases ry
  obtain ⟨its, r1, ⟨⟨cls, dd, data, sl⟩, n, e1, hc, hdd, hd⟩, _⟩ := I.list hl
  obtain ⟨its2, r2, ⟨⟨cls2, dd2, data2, sl2⟩, n2, e2, hc2, hdd2, hd2⟩, _⟩ := I.list hb
  simp only at hc hd hc2 hd2
  subst hc hd hc2 hd2
  refine concat_meets ⟨_, e1, rfl⟩ ⟨_, e2, rfl⟩ noFill_list_add seq_list_add PySem.F.slot_list_add PySem.F.entry_list_add (PySem.F.args_list_add_2 _ _) (list_addW l b its.toArray its2.toArray n n2 dd dd2 sl sl2 (by rw [List.size_toArray, List.size_toArray, ← r1.length, ← r2.length]; exact hz)) ⟨e1, e2, ?_⟩
  have ea : its.toArray ++ its2.toArray = (its ++ its2).toArray := by simp
  rw [ea]
  exact ⟨.ref _, _, I.lnew (t' := s.toks) (r1.append r2) (by rw [List.length_append]; exact hz), rfl, q _ I.fresh⟩
def dCat (x y : PyData) : R (List PyData) := match x, y with
  | .list xs, .list ys => chk (xs.length + ys.length ≤ big) (.ok (xs ++ ys))
  | _, _ => .bad
@[simp] def mLAdd (m n : M Hd) (ρ : Ro) : R (List PyData × Ro) := (m ρ).bind fun p => (n p.2).bind fun q => (rs p.1 q.2).bind fun a => (rs q.1 q.2).bind fun b => (dCat a b).bind fun d => .ok (d, q.2)
theorem sl_add (ha : PE X a (TM X.tri m)) (hb : PE X b (TM X.tri n)) : PE X (.BinOp a .Add b pos) (TL X.tri (mLAdd m n)) :=
  pe_imp (pe_op op_catD ha hb) fun σ H Q ⟨fm, G, ρ, h, ρ', rp, e, k⟩ => by
    obtain ⟨⟨h1, ρ1⟩, e1, e⟩ := R.of_bind e
    obtain ⟨⟨h2, ρ2⟩, e2, e⟩ := R.of_bind e
    obtain ⟨d1, e3, e⟩ := R.of_bind e
    obtain ⟨d2, e4, e⟩ := R.of_bind e
    obtain ⟨d, e5, e⟩ := R.of_bind e
    cases e
    refine ⟨fm, G, ρ, h1, ρ1, rp, e1, fun x G1 H1 x1 rp1 hx => ⟨fm, G1, ρ1, h2, ρ2, rp1, e2, fun y G2 H2 x2 rp2 hy => ?_⟩⟩
    have vx := rs_vw rp2 (relh_mono x2 hx) e3
    have vy := rs_vw rp2 hy e4
    unfold dCat at e5
    split at e5
    · obtain ⟨hz, e5⟩ := chk_ok e5
      cases e5
      obtain ⟨p, vs, rfl, hs, da⟩ := vx.lst rp2.gh
      obtain ⟨p', ws, rfl, hs', da'⟩ := vy.lst rp2.gh
      refine ⟨p, p', vs, ws, rfl, rfl, hs, hs', by rw [dpa_len da, dpa_len da']; exact big_le hz, fun q hq => ?_⟩
      exact k _ G2 _ (x1.trans x2) (rp2.grow (Ex.new hq)) (newl_new rp2 hq (dpa_app da da'))
    · cases e5

/-! ### a new list is held while something else is done -/
theorem Rp.hold {K : Tri} {fm : Fm} {G H : Hp} {σ : L2.St} {ρ : Ro} (r : Rp K fm G H σ ρ) {p : Addr} {vs : List V} (fp : fm.F p = none) (gp : G p = none) (hp : H p = some (.lst vs))
    (ow : ∀ (i : Nat) (sv : Sv), ρ[i]? = some (some sv) → Sv.owned sv → σ[i]? ≠ some (some (V.ref p))) : Rp K ⟨upd fm.F p (.lst vs), fm.L, fm.B⟩ G H σ ρ where
  len := r.len
  gh := r.gh
  fh := fun a o h => by
    have h : (upd fm.F p (.lst vs)) a = some o := h
    by_cases e : a = p
    · subst e
      rw [upd_same] at h
      rw [hp]
      exact h
    · rw [upd_ne e] at h
      exact r.fh a o h
  fg := fun a h => by
    have h : (upd fm.F p (.lst vs)) a ≠ none := h
    by_cases e : a = p
    · rw [e]
      exact gp
    · rw [upd_ne e] at h
      exact r.fg a h
  lh := r.lh
  lg := r.lg
  sl := fun j sv h => by
    obtain ⟨v, h1, h2⟩ := r.sl j sv h
    refine ⟨v, h1, ?_⟩
    cases sv with
    | fz d => exact h2
    | ob k c =>
      obtain ⟨a, us, rfl, ga, fa, la, ha, mo, da⟩ := h2
      have e : a ≠ p := by
        rintro rfl
        exact ow j _ h trivial h1
      exact ⟨a, us, rfl, ga, (upd_ne e).trans fa, la, ha, mo, da⟩
  ap := r.ap
  pin := r.pin
/-- list * int -/
def dRep (xs : List PyData) (y : PyData) : R (List PyData) := match y with
  | .int k => chk (-(2 ^ 63) ≤ k ∧ k ≤ 1000000 ∧ xs.length * k.toNat ≤ big) (.ok (List.replicate k.toNat xs).flatten)
  | _ => .bad
@[simp] def mLRep (m : M (List PyData)) (n : M Hd) (ρ : Ro) : R (List PyData × Ro) := (m ρ).bind fun p => (n p.2).bind fun q => (rs q.1 q.2).bind fun b => (dRep p.1 b).bind fun d => .ok (d, q.2)
theorem dpa_rep {K : PySem.W.Frag} {H : Hp} {vs : List V} {ds : List PyData} (a : DpAll K H vs ds) : ∀ n, DpAll K H (List.replicate n vs).flatten (List.replicate n ds).flatten
  | 0 => .nil
  | n + 1 => by
    rw [List.replicate_succ, List.replicate_succ, List.flatten_cons, List.flatten_cons]
    exact dpa_app a (dpa_rep a n)
theorem sl_rep {ml : M (List PyData)} (ha : PE X a (TL X.tri ml)) (hb : PE X b (TM X.tri n)) : PE X (.BinOp a .Mult b pos) (TL X.tri (mLRep ml n)) :=
  pe_imp (pe_op op_rep ha hb) fun σ H Q ⟨fm, G, ρ, h, ρ', rp, e, k⟩ => by
    obtain ⟨⟨xs, ρ1⟩, e1, e⟩ := R.of_bind e
    obtain ⟨⟨h2, ρ2⟩, e2, e⟩ := R.of_bind e
    obtain ⟨d2, e4, e⟩ := R.of_bind e
    obtain ⟨d, e5, e⟩ := R.of_bind e
    cases e
    refine ⟨fm, G, ρ, xs, ρ1, rp, e1, fun x G1 H1 x1 rp1 ⟨p, vs, ex, fp, lp, gp, hp, da, ow⟩ => ⟨⟨upd fm.F p (.lst vs), fm.L, fm.B⟩, G1, ρ1, h2, ρ2, rp1.hold fp gp hp ow, e2, fun y G2 H2 x2 rp2 hy => ?_⟩⟩
    have vy := rs_vw rp2 hy e4
    obtain ⟨rp3, hD, _, _⟩ := rp2.made' fp
    unfold dRep at e5
    split at e5
    · obtain ⟨hz, e5⟩ := chk_ok e5
      cases e5
      have := dpa_len da
      refine ⟨p, _, vs, ex, vy.int, hD, hz.1, by omega, by rw [this]; exact big_le hz.2.2, fun q hq => ?_⟩
      exact k _ G2 _ (x1.trans x2) (rp3.grow (Ex.new hq)) (newl_new rp3 hq (dpa_rep (dpa_mono x2 da) _))
    · cases e5
/-- [..] or [..] -/
@[simp] def mLOr (m n : M (List PyData)) (ρ : Ro) : R (List PyData × Ro) := (m ρ).bind fun p => match p.1 with
  | [] => n p.2
  | xs => .ok (xs, p.2)
theorem sl_or {ml nl : M (List PyData)} (ha : PE X a (TL X.tri ml)) (hb : PE X b (TL X.tri nl)) : PE X (.BoolOp .Or [a, b] pos) (TL X.tri (mLOr ml nl)) :=
  pe_imp (pe_orT ha (pe_one hb)) fun σ H Q ⟨fm, G, ρ, h, ρ', rp, e, k⟩ => by
    obtain ⟨⟨xs, ρ1⟩, e1, e⟩ := R.of_bind e
    refine ⟨fm, G, ρ, xs, ρ1, rp, e1, fun x G1 H1 x1 rp1 nl => ?_⟩
    obtain ⟨p, vs, rfl, fp, lp, gp, hp, da, ow⟩ := nl
    refine ⟨!vs.isEmpty, .inl ⟨vs, sq_of hp, rfl⟩, ?_⟩
    cases da with
    | nil =>
      rw [if_neg (by simp)]
      exact ⟨fm, G1, ρ1, h, ρ', rp1, e, fun v G2 H2 x2 rp2 hv => k v G2 H2 (x1.trans x2) rp2 hv⟩
    | cons d1 d2 =>
      cases e
      simp only [List.isEmpty_cons, Bool.not_false, if_true]
      exact k _ G1 H1 x1 rp1 ⟨p, _, rfl, fp, lp, gp, hp, .cons d1 d2, ow⟩
end

/-! ### + and * of all kinds -/
def dAddL (x y : PyData) : R PyData := (dCat x y).bind fun xs => .ok (.list xs)
def dAddA (x y : PyData) : R PyData := match x with
  | .list _ => dAddL x y
  | _ => dAdd x y
def dMulT (x y : PyData) : R PyData := match x, y with
  | .tuple xs, .int k => chk (xs ≠ [] ∧ 2 ≤ k ∧ k ≤ 1000 ∧ xs.length ≤ 1000) (.ok (.tuple (List.replicate k.toNat xs).flatten))
  | _, _ => .bad
def dMulA (x y : PyData) : R PyData := match x with
  | .tuple _ => dMulT x y
  | _ => dMul x y
section
variable {X : Cx}
theorem od_addL : OpD X (binaryOp .Add) dAddL := ⟨_, op_catD, fun fm G H σ ρ x y dx dy d Q rp vx vy e k => by
  obtain ⟨zs, e5, e⟩ := R.of_bind e
  cases e
  unfold dCat at e5
  split at e5
  · obtain ⟨hz, e5⟩ := chk_ok e5
    cases e5
    obtain ⟨p, vs, rfl, hs, da⟩ := vx.lst rp.gh
    obtain ⟨p', ws, rfl, hs', da'⟩ := vy.lst rp.gh
    refine ⟨p, p', vs, ws, rfl, rfl, hs, hs', by rw [dpa_len da, dpa_len da']; exact big_le hz, fun q hq => ?_⟩
    have gp : G q = none := fresh_back rp.gh hq
    exact k _ _ _ (Ex.new gp) (rp.gnew hq) (.lst (sq_of upd_same) (dpa_mono (Ex.new gp) (dpa_app da da')))
  · cases e5⟩
theorem od_addA : OpD X (binaryOp .Add) dAddA := opd_or od_addL od_add fun x y d e => by
  unfold dAddA at e
  split at e
  · exact .inl e
  · exact .inr e
theorem od_mulT : OpD X (binaryOp .Mult) dMulT := ⟨_, op_repT, fun fm G H σ ρ x y dx dy d Q rp vx vy e k => by
  unfold dMulT at e
  split at e
  · obtain ⟨hz, e⟩ := chk_ok e
    cases e
    obtain ⟨p, vs, rfl, hs, _, da⟩ := vx.tup rp.gh
    have hl := dpa_len da
    refine ⟨p, _, vs, rfl, vy.int, hs, fun z => hz.1 ?_, hz.2.1, hz.2.2.1, by rw [hl]; exact hz.2.2.2, fun q hq => ?_⟩
    · subst z
      exact List.eq_nil_of_length_eq_zero hl.symm
    · have gp : G q = none := fresh_back rp.gh hq
      exact k _ _ _ (Ex.new gp) (rp.gnew hq) (.tup (st_of upd_same) (dpa_mono (Ex.new gp) (dpa_rep da _)))
  · cases e⟩
theorem od_mulA : OpD X (binaryOp .Mult) dMulA := opd_or od_mulT od_mulI fun x y d e => by
  unfold dMulA at e
  split at e
  · exact .inl e
  · exact .inr e
end

/-! ### sorted -/
def insD (d : PyData) : List PyData → List PyData
  | [] => [d]
  | e :: r => if PySem.W.dataLt e d = true then e :: insD d r else d :: e :: r
def sortD : List PyData → List PyData
  | [] => []
  | d :: r => insD d (sortD r)
abbrev leD : PyData → PyData → Bool := PySem.W.dataLe false fun d : PyData => d
theorem leD_eq (a b : PyData) : leD a b = !PySem.W.dataLt b a := rfl
theorem leD_total : PySem.W.TotalLe leD := PySem.W.sortLe_total _ _ _
theorem insD_app (d : PyData) : ∀ (l1 l2 : List PyData), (∀ b ∈ l1, leD d b = false) → (∀ c ∈ l2, leD d c = true) → insD d (l1 ++ l2) = l1 ++ d :: l2
  | [], [], _, _ => rfl
  | [], c :: l2, _, h => by
    have := h c List.mem_cons_self
    rw [leD_eq] at this
    show (if PySem.W.dataLt c d = true then _ else _) = _
    rw [if_neg (by simpa using this)]
    rfl
  | b :: l1, l2, h1, h2 => by
    have := h1 b List.mem_cons_self
    rw [leD_eq] at this
    show (if PySem.W.dataLt b d = true then b :: insD d (l1 ++ l2) else _) = _
    rw [if_pos (by simpa using this), insD_app d l1 l2 (fun x hx => h1 x (List.mem_cons_of_mem _ hx)) h2]
    rfl
theorem sort_is : ∀ l : List PyData, l.mergeSort leD = sortD l
  | [] => by simp [sortD]
  | d :: l => by
    obtain ⟨l1, l2, h1, h2, h3⟩ := List.mergeSort_cons (le := leD) leD_total.trans (fun a b => by
      rcases leD_total.total a b with h | h
      · rw [h]; rfl
      · rw [h, Bool.or_true]) d l
    have hs := List.pairwise_mergeSort (le := leD) leD_total.trans (fun a b => by
      rcases leD_total.total a b with h | h
      · rw [h]; rfl
      · rw [h, Bool.or_true]) (d :: l)
    rw [h1] at hs
    have hc : ∀ c ∈ l2, leD d c = true := by
      have := (List.pairwise_append.mp hs).2.1
      exact (List.pairwise_cons.mp this).1
    rw [h1, sortD, ← sort_is l, h2, insD_app d l1 l2 (fun b hb => by simpa using h3 b hb) hc]
def isTup1 : PyData → Bool
  | .tuple (_ :: _) => true
  | _ => false
def notTup : PyData → Bool
  | .tuple _ => false
  | .none => false
  | _ => true
def okSort (xs : List PyData) : Bool := xs.all (fun d => xs.all fun e => PySem.W.alike d e) && (xs.all isTup1 || xs.all notTup) && xs.all (fun d => decide (d.depth ≤ 60)) && decide (xs.length ≤ big)
def gSorted : List PyData → R (List PyData)
  | [.list xs] => chk (okSort xs = true) (.ok (sortD xs))
  | _ => .bad
theorem okSort_of {xs : List PyData} (h : okSort xs = true) : PySem.W.AllAlike xs ∧ PySem.W.Sortable xs ∧ (∀ d ∈ xs, d.depth ≤ 60) ∧ xs.length ≤ big := by
  unfold okSort at h
  rw [Bool.and_eq_true, Bool.and_eq_true, Bool.and_eq_true, Bool.or_eq_true] at h
  obtain ⟨⟨⟨h1, h2⟩, h3⟩, h4⟩ := h
  refine ⟨fun d hd d' hd' => List.all_eq_true.mp (List.all_eq_true.mp h1 d hd) d' hd', ?_, fun d hd => of_decide_eq_true (List.all_eq_true.mp h3 d hd), of_decide_eq_true h4⟩
  rcases h2 with h2 | h2
  · refine .inl fun d hd => ?_
    have := List.all_eq_true.mp h2 d hd
    unfold isTup1 at this
    split at this
    · exact ⟨_, _, rfl⟩
    · cases this
  · refine .inr fun d hd => ?_
    have := List.all_eq_true.mp h2 d hd
    refine ⟨?_, fun ys => ?_⟩
    · rintro rfl
      cases this
    · rintro rfl
      cases this
/-- what the values stand for -/
def Stands (K : PySem.W.Frag) (G : Hp) (u : Value) (d : PyData) : Prop := ∃ v, RelV v u ∧ Dp K G v d
theorem each_of {K : PySem.W.Frag} {G : Hp} : ∀ {vs : List V} {us : List Value} {ds : List PyData}, Vals vs us → DpAll K G vs ds → PySem.W.EachIs (Stands K G) us ds
  | _, _, _, .nil, .nil => .nil
  | _, _, _, .cons r t, .cons h a => .cons ⟨_, r, h⟩ (each_of t a)
theorem of_each {K : PySem.W.Frag} {G : Hp} : ∀ {us : List Value} {ds : List PyData}, PySem.W.EachIs (Stands K G) us ds → ∃ vs, Vals vs us ∧ DpAll K G vs ds
  | _, _, .nil => ⟨[], .nil, .nil⟩
  | _, _, .cons ⟨v, r, h⟩ t => by
    obtain ⟨vs, a, b⟩ := of_each t
    exact ⟨v :: vs, .cons r a, .cons h b⟩
section
variable {X : Cx}
def rSortD (K : PySem.W.Frag) : List V → Hp → VK → Prop := fun vs H Q => ∃ (a : Addr) (us : List V) (ds : List PyData) (G : Hp), vs = [V.ref a] ∧ SqL K H a us ∧ Ex G H ∧ DpAll K G us ds ∧ okSort ds = true ∧ ∀ ws p, DpAll K G ws (sortD ds) → H p = none → Q (.ref p) (upd H p (.lst ws))
theorem cr_sortedD (c : Cxo X) : CallR X (.builtin "sorted") (rSortD X.K) := by
  intro pins s σ H vs us Q I r h
  obtain ⟨a, ws, ds, G, rfl, hs, eg, da, ok, q⟩ := h
  obtain ⟨its, rv, hl, _⟩ := I.list hs
  rw [Vals.ref1 r]
  obtain ⟨o1, o2, o3, o4⟩ := okSort_of ok
  have hu := c.hu
  have hm : ds.map (fun d : PyData => d) = ds := List.map_id' ds
  have ei := each_of rv da
  refine PySem.W.sorted_data (bs := ds) (enc := fun d => d) (R := Stands X.K G) hl.isList ei (ei.mono fun u d ⟨v, r1, r2⟩ => Dp.reads I d v u (dp_mono eg r2) r1) (by rw [hm]; exact o1) (by rw [hm]; exact o2) (big_le o4) (fun d hd => by have := o3 d hd; omega) fun out h1 h2 => ?_
  have h2 : PySem.W.EachIs (Stands X.K G) out (ds.mergeSort leD) := h2
  rw [sort_is] at h2
  obtain ⟨vs', v1, v2⟩ := of_each h2
  obtain ⟨ep, he'⟩ := PyProof.Rows.sortedAll_at s.heap its out.toArray
  have hlen : vs'.length ≤ sizeLine := by rw [v1.length, h1]; exact big_le o4
  exact ⟨.ref _, upd H (s.heap.objs.size + 1) (.lst vs'), I.laid (t' := s.toks) (fun _ _ => PyProof.Rows.sortedAll_old) (Nat.le_succ _) ⟨hlen, out, ep, v1, he'⟩, rfl, q _ _ v2 (I.hok.fresh (Nat.le_succ _))⟩
theorem cd_sorted (c : Cxo X) : CallLD X (.builtin "sorted") gSorted := ⟨_, cr_sortedD c, fun fm G H σ ρ vs ds d Q rp hva e k => by
  unfold gSorted at e
  split at e
  · obtain ⟨ok, e⟩ := chk_ok e
    cases e
    obtain ⟨v, rfl, hv⟩ := vwall1 hva
    obtain ⟨p, us, rfl, hs, da⟩ := hv.lst rp.gh
    exact ⟨p, us, _, G, rfl, hs, rp.gh, da, ok, fun ws q dw hq => k _ G _ (Ex.refl G) (rp.grow (Ex.new hq)) (newl_new rp hq dw)⟩
  · cases e⟩
end
end FM
/-! dicts as they stand in the heap: entries by nested keys -/
namespace FM
open PySem PySem.Spec PyProof.Rows L2 Evl

def isTupK : NestedKey → Bool
  | .tup ks => decide ((NestedKey.tup ks).depth ≤ 8)
  | _ => false
def isLeafK : NestedKey → Bool
  | .tup _ => false
  | _ => true
structure Keyed (h : Heap) (L : List En) : Prop where
  isk : ∀ x ∈ L, NestedIs h x.1 x.2.1
  nd : (L.map (·.1)).Nodup
def leafOf : NestedKey → Leaf
  | .num i => .num i
  | .text x => .text x
  | _ => .none
theorem leafOf_key {k : NestedKey} (h : isLeafK k = true) : (leafOf k).key = k := by
  cases k <;> first | rfl | cases h
theorem leaf_is {h : Heap} {k : NestedKey} {v : Value} (x : NestedIs h k v) (hl : isLeafK k = true) : Leaf.isOf (leafOf k) v = true := by
  cases x with
  | none => rfl
  | bool e =>
    rename_i b i
    subst e
    exact decide_eq_true rfl
  | int i t => exact decide_eq_true rfl
  | text z t =>
    show Value.isStrOf z (.str z t) = true
    unfold Value.isStrOf
    simp [Value.isStr]
  | tup _ _ _ _ => cases hl
def refOf : Value → Addr
  | .ref a => a
  | _ => 0
theorem tup_ref {h : Heap} {k : NestedKey} {v : Value} (x : NestedIs h k v) (hl : isTupK k = true) : v = .ref (refOf v) ∧ k.depth ≤ 8 := by
  cases x with
  | tup _ _ _ _ => exact ⟨rfl, of_decide_eq_true hl⟩
  | _ => cases hl
def kinds (k : NestedKey) (L : List En) : Bool := (isTupK k && L.all fun x => isTupK x.1) || (isLeafK k && L.all fun x => isLeafK x.1)
section
variable {prog : Program} {w : World} {A : Around} {E : Value → Shared → Prop} {s : Shared} {d : Addr} {L : List En} {k : NestedKey} {u : Value}
theorem find_raw {Q : Option Nat → Shared → Prop} (hu : A.units + 8 < cLine) (hd : HasD w s.heap d L) (hk : Keyed s.heap L) (key : NestedIs s.heap k u) (kk : kinds k L = true)
    (hnone : (∀ x ∈ L, x.1 ≠ k) → Q none s) (hsome : ∀ (j : Nat) (x : En), L[j]? = some x → x.1 = k → Q (some j) s) : wpAny (model prog w) A (dictFind d u (k.hash w)) Q E s := by
  obtain ⟨o, ep, ho, hc, hdat⟩ := hd
  unfold kinds at kk
  rw [Bool.or_eq_true, Bool.and_eq_true, Bool.and_eq_true] at kk
  rcases kk with ⟨kt, kl⟩ | ⟨kt, kl⟩
  · obtain ⟨eu, hdp⟩ := tup_ref key kt
    rw [eu]
    refine wpAny_dictFind_heap (knd := nestedKind prog w) (xs := L.map fun x => (x.1, refOf x.2.1, x.2.2)) hu ⟨by rw [← eu]; exact key, hdp⟩ ho hdat ?_ (fun x hx => ?_) ?_ (fun hno => hnone fun x hx e => ?_) fun j p hj => ?_
    · rw [List.map_map]
      refine List.map_congr_left fun x hx => ?_
      obtain ⟨ex, _⟩ := tup_ref (hk.isk x hx) (List.all_eq_true.mp kl x hx)
      show DictEntry.mk _ x.2.1 x.2.2 = DictEntry.mk _ (.ref (refOf x.2.1)) x.2.2
      rw [← ex]
      rfl
    · obtain ⟨y, hy, rfl⟩ := List.mem_map.mp hx
      obtain ⟨ex, hdy⟩ := tup_ref (hk.isk y hy) (List.all_eq_true.mp kl y hy)
      exact ⟨by show NestedIs _ y.1 (.ref (refOf y.2.1)); rw [← ex]; exact hk.isk y hy, hdy⟩
    · rw [List.map_map]
      exact hk.nd
    · obtain ⟨j, hj⟩ := List.mem_iff_getElem?.mp hx
      exact hno j (refOf x.2.1, x.2.2) (by rw [List.getElem?_map, hj, ← e]; rfl)
    · rw [List.getElem?_map] at hj
      cases q : L[j]? with
      | none => rw [q] at hj; cases hj
      | some x =>
        rw [q] at hj
        simp only [Option.map_some, Option.some.injEq, Prod.mk.injEq] at hj
        exact hsome j x q hj.1
  · have hlk := leafOf_key kt
    have hko : KeysOf (leafKind prog w) (L.map (entN w)).toArray := fun e he => by
      obtain ⟨x, hx, rfl⟩ := List.mem_map.mp (List.mem_toArray.mp he)
      have hx2 := List.all_eq_true.mp kl x hx
      exact ⟨leafOf x.1, leaf_is (hk.isk x hx) hx2, by show x.1.hash w = (leafOf x.1).key.hash w; rw [leafOf_key hx2]⟩
    have goal := wpAny_dictFind_of (knd := leafKind prog w) (A := A) (E := E) (s := s) (d := d) (k := leafOf k) (key := u) (Q := Q) (leaf_is key kt) ho hdat hko ?_
    · have e : (leafKind prog w).hash (leafOf k) = k.hash w := by show (leafOf k).key.hash w = _; rw [hlk]
      rw [e] at goal
      exact goal
    · have hiff : ∀ x ∈ L, (Leaf.isOf (leafOf k) x.2.1 = true ↔ x.1 = k) := fun x hx => by
        have hx2 := List.all_eq_true.mp kl x hx
        constructor
        · intro h
          have h1 := Leaf.nested (h := s.heap) h
          rw [hlk] at h1
          exact (NestedIs.inj _ _ _ h1 (hk.isk x hx)).symm
        · rintro rfl
          exact leaf_is (hk.isk x hx) hx2
      cases q : (L.map (entN w)).toArray.findIdx? fun e => (leafKind prog w).is (leafOf k) e.key with
      | none =>
        refine hnone fun x hx e => ?_
        have := Array.findIdx?_eq_none_iff.mp q (entN w x) (by simp; exact ⟨_, _, _, hx, rfl⟩)
        have h2 : Leaf.isOf (leafOf k) x.2.1 = false := this
        rw [(hiff x hx).mpr e] at h2
        cases h2
      | some j =>
        obtain ⟨hlt, h1, _⟩ := Array.findIdx?_eq_some_iff_getElem.mp q
        have hlt2 : j < L.length := by simpa using hlt
        have h2 : Leaf.isOf (leafOf k) L[j].2.1 = true := by
          have : (L.map (entN w)).toArray[j] = entN w L[j] := by simp
          rw [this] at h1
          exact h1
        exact hsome j L[j] (List.getElem?_eq_getElem hlt2) ((hiff _ (List.getElem_mem hlt2)).mp h2)
theorem get_raw {Q : Option Value → Shared → Prop} (hu : A.units + 8 < cLine) (hd : HasD w s.heap d L) (hk : Keyed s.heap L) (key : NestedIs s.heap k u) (kk : kinds k L = true) (h8 : k.depth ≤ 8)
    (hnone : (∀ x ∈ L, x.1 ≠ k) → ∀ t, Q none { s with toks := t }) (hsome : ∀ (x : En), x ∈ L → x.1 = k → ∀ t, Q (some x.2.2) { s with toks := t }) : wpAny (model prog w) A (dictGet d u) Q E s := by
  unfold dictGet
  refine wpAny_holding (wpAny_bind (pyHash_key k u A s _ key (by omega) (wpAny_bind ?_)))
  refine find_raw (s := { s with toks := s.toks + k.draws }) hu hd hk key kk (fun hno => wpAny_pure (hnone hno _)) fun j x hj hx => ?_
  obtain ⟨o, ep, ho, hc, hdat⟩ := hd
  refine wpAny_bind (wpAny_dictEntries (s := { s with toks := s.toks + k.draws }) ho hdat ?_)
  have e : (L.map (entN w)).toArray[j]? = some (entN w x) := by simp [hj]
  rw [e]
  exact wpAny_pure (hsome x (List.mem_of_getElem? hj) hx _)
/-- a new value for a key -/
def putE (k : NestedKey) (u v : Value) : List En → List En
  | [] => [(k, u, v)]
  | x :: r => if x.1 = k then (x.1, x.2.1, v) :: r else x :: putE k u v r
theorem putE_new {k : NestedKey} {u v : Value} : ∀ {L : List En}, (∀ x ∈ L, x.1 ≠ k) → putE k u v L = L ++ [(k, u, v)]
  | [], _ => rfl
  | x :: r, h => by
    unfold putE
    rw [if_neg (h x List.mem_cons_self), putE_new fun y hy => h y (List.mem_cons_of_mem _ hy)]
    rfl
theorem putE_old {k : NestedKey} {u v : Value} : ∀ {L : List En} {j : Nat} {x : En}, (L.map (·.1)).Nodup → L[j]? = some x → x.1 = k → putE k u v L = L.set j (x.1, x.2.1, v)
  | [], j, x, _, hj, _ => by simp at hj
  | y :: r, 0, x, _, hj, hx => by
    simp only [List.getElem?_cons_zero, Option.some.injEq] at hj
    subst hj
    unfold putE
    rw [if_pos hx]
    rfl
  | y :: r, j + 1, x, nd, hj, hx => by
    rw [List.map_cons, List.nodup_cons] at nd
    have hj : r[j]? = some x := by simpa using hj
    have hy : y.1 ≠ k := fun e => nd.1 (List.mem_map.mpr ⟨x, List.mem_of_getElem? hj, by rw [hx, e]⟩)
    unfold putE
    rw [if_neg hy, putE_old nd.2 hj hx]
    rfl
theorem modify_set {α : Type} {l : List α} {j : Nat} {f : α → α} {y : α} (h : l[j]? = some y) : l.modify j f = l.set j (f y) := by
  apply List.ext_getElem?
  intro i
  rw [List.getElem?_modify]
  by_cases e : j = i
  · subst e
    rw [List.getElem?_set_self (List.getElem?_eq_some_iff.mp h).1, h]
    simp
  · rw [List.getElem?_set_ne e]
    simp [e]
theorem set_raw {v : Value} {Q : Unit → Shared → Prop} (hu : A.units + 8 < cLine) (hd : HasD w s.heap d L) (hk : Keyed s.heap L) (key : NestedIs s.heap k u) (kk : kinds k L = true) (h8 : k.depth ≤ 8) (hz : L.length ≤ sizeLine)
    (h : ∀ h' t, HasD w h' d (putE k u v L) → Heap.SameBut d s.heap h' → Q () { s with heap := h', toks := t }) : wpAny (model prog w) A (dictSet d u v) Q E s := by
  unfold dictSet
  refine wpAny_holding (wpAny_bind (pyHash_key k u A s _ key (by omega) ?_))
  unfold dictSetHashed
  refine wpAny_holding (wpAny_bind ?_)
  refine find_raw (s := { s with toks := s.toks + k.draws }) hu hd hk key kk (fun hno => ?_) fun j x hj hx => ?_
  · obtain ⟨o, ep, ho, hc, hdat⟩ := hd
    refine wpAny_bind (wpAny_rule (wpAny_updateDictKeys (hz := by simpa using hz) (s := { s with toks := s.toks + k.draws }) ho hdat (h _ _ ⟨_, ep + 1, Heap.get?_update_self _ ho (Obj.isFreed_of_dict (Obj.data_mapDictKeys hdat _)), hc.mapDictKeys _, ?_⟩ (Heap.SameBut.update ..))))
    rw [Obj.data_mapDictKeys hdat, putE_new hno]
    simp [entN]
  · obtain ⟨o, ep, ho, hc, hdat⟩ := hd
    refine wpAny_bind (wpAny_rule (wpAny_bind (wpAny_updateDict (s := { s with toks := s.toks + k.draws }) ho hdat (wpAny_point (h _ _ ⟨_, ep, Heap.get?_update_self _ ho (Obj.isFreed_of_dict (Obj.data_mapDict hdat _)), hc.mapDict _, ?_⟩ (Heap.SameBut.update ..))))))
    rw [Obj.data_mapDict hdat, putE_old hk.nd hj hx]
    have hl : j < L.length := (List.getElem?_eq_some_iff.mp hj).1
    congr 1
    apply Array.ext'
    simp only [Array.toList_modify]
    rw [modify_set (y := entN w x) (by rw [List.getElem?_map, hj]; rfl), List.map_set]
    rfl
theorem HasD.ty (hd : HasD w s.heap d L) : s.TypeIs (.ref d) "dict" := let ⟨o, _, ho, hc, _⟩ := hd; ⟨o, ho, hc.1⟩
theorem item_raw {Q : Value → Shared → Prop} (hu : A.in1.units + 8 < cLine) (hd : HasD w s.heap d L) (hk : Keyed s.heap L) (key : NestedIs s.heap k u) (kk : kinds k L = true) (h8 : k.depth ≤ 8) {x : En} (hx : x ∈ L) (ex : x.1 = k)
    (h : ∀ t, Q x.2.2 { s with toks := t }) : wpAny (model prog w) A (getItem (.ref d) u) Q E s := by
  have one : ∀ y ∈ L, y.1 = k → y = x := fun y hy ey => by
    obtain ⟨i, hi⟩ := List.mem_iff_getElem?.mp hx
    obtain ⟨j, hj⟩ := List.mem_iff_getElem?.mp hy
    have : i = j := (List.getElem?_inj (i := i) (j := j) (l := L.map (·.1)) (by simpa using (List.getElem?_eq_some_iff.mp hi).1) hk.nd).mp (by rw [List.getElem?_map, List.getElem?_map, hi, hj]; simp [ex, ey])
    subst this
    rw [hi] at hj
    exact (Option.some.inj hj).symm
  unfold getItem
  refine wpAny_holding (wpAny_bind (wpAny_sequenceKey hd.ty (by decide) (wpAny_bind (wpAny_callSpecial?_slot (name := Str.ofString "__getitem__") hd.ty PySem.F.slot_dict_getitem (wpAny_call_entry PySem.F.slot_dict_getitem hd.ty PySem.F.entry_dict_getitem ?_ (PySem.F.args_dict_getitem_2 _ _))))))
  refine (show wpAny _ _ (dictGet d u >>= _) _ _ s from wpAny_bind (get_raw hu hd hk key kk h8 (fun hno t => absurd ex (hno x hx)) fun y hy ey t => ?_))
  rw [one y hy ey]
  exact wpAny_pure ⟨x.2.2, rfl, wpAny_pure (h t)⟩
theorem store_raw {v : Value} {Q : Unit → Shared → Prop} (hu : A.in1.units + 8 < cLine) (hd : HasD w s.heap d L) (hk : Keyed s.heap L) (key : NestedIs s.heap k u) (kk : kinds k L = true) (h8 : k.depth ≤ 8) (hz : L.length ≤ sizeLine)
    (h : ∀ h' t, HasD w h' d (putE k u v L) → Heap.SameBut d s.heap h' → Q () { s with heap := h', toks := t }) : wpAny (model prog w) A (setItem (.ref d) u v) Q E s := by
  unfold setItem
  refine wpAny_holding (wpAny_bind (wpAny_sequenceKey hd.ty (by decide) (wpAny_bind (wpAny_callSpecial?_slot (name := Str.ofString "__setitem__") hd.ty PySem.F.slot_dict_setitem (wpAny_call_entry PySem.F.slot_dict_setitem hd.ty PySem.F.entry_dict_setitem ?_ (PySem.F.args_dict_setitem_3 _ _ _))))))
  refine (show wpAny _ _ (Builtin.Dict.notOrdered "__setitem__" ⟨[.ref d, u, v], []⟩ >>= _) _ _ s from wpAny_bind (wpAny_notOrdered_dict hd.ty ?_))
  exact (show wpAny _ _ (dictSet d u v >>= _) _ _ s from wpAny_bind (set_raw hu hd hk key kk h8 hz fun h' t q1 q2 => wpAny_pure ⟨.none, rfl, wpAny_pure (h h' t q1 q2)⟩))
end
end FM
/-! dicts of one's own -/
namespace FM
open PySem PySem.Spec PyProof.Rows L2 Evl

section
variable {X : Cx} {pins : List (Addr × Obj)} {σ : L2.St} {H : Hp} {s : Shared}
mutual
theorem nest_of (I : Inv X pins σ H s) : ∀ (d : PyData) (v : V) (u : Value), Dp X.K H v d → RelV v u → hashOk d = true → NestedIs s.heap (toKey d) u
  | .none, _, _, .non, r, _ => by
    cases r
    exact .none
  | .bool b, _, _, .bl _, r, _ => by
    cases r
    exact .bool rfl
  | .int i, _, _, .int _, r, _ => by
    obtain ⟨t, rfl⟩ := r
    exact .int _ _
  | .str x, _, _, .str _, r, _ => by
    obtain ⟨t, rfl⟩ := r
    exact .text _ _
  | .tuple xs, _, _, .tup hs da, r, h => by
    cases r
    obtain ⟨its, rv, ⟨o, e1, e2, n, e3⟩, _⟩ := I.tuple hs
    simp only [hashOk] at h
    exact .tup e1 e2 e3 (nest_all I xs _ _ da rv h)
  | .list xs, _, _, _, _, h => by simp [hashOk] at h
  | .dict xs, _, _, _, _, h => by simp [hashOk] at h
theorem nest_all (I : Inv X pins σ H s) : ∀ (ds : List PyData) (vs : List V) (us : List Value), DpAll X.K H vs ds → Vals vs us → hashAll ds = true → NestedAll s.heap (toKeys ds) us
  | [], _, _, .nil, .nil, _ => .nil
  | d :: ds, _, _, .cons h a, .cons r t, q => by
    simp only [hashAll, Bool.and_eq_true] at q
    exact .cons (nest_of I d _ _ h r q.1) (nest_all I ds _ _ a t q.2)
end
def kindsD (k : PyData) (kvs : List (PyData × PyData)) : Bool := (isTupK (toKey k) && kvs.all fun p => isTupK (toKey p.1)) || (isLeafK (toKey k) && kvs.all fun p => isLeafK (toKey p.1))
def okKey (k : PyData) (kvs : List (PyData × PyData)) : Bool := hashOk k && kindsD k kvs && decide ((toKey k).depth ≤ 8)
def dFind (k : PyData) : List (PyData × PyData) → Option PyData
  | [] => none
  | p :: r => if NestedKey.beq (toKey p.1) (toKey k) = true then some p.2 else dFind k r
def dPut (k v : PyData) : List (PyData × PyData) → List (PyData × PyData)
  | [] => [(k, v)]
  | p :: r => if NestedKey.beq (toKey p.1) (toKey k) = true then (p.1, v) :: r else p :: dPut k v r
theorem beq_iff {a b : NestedKey} : NestedKey.beq a b = true ↔ a = b := ⟨NestedKey.eq_of_beq a b, fun e => by rw [e]; exact NestedKey.beq_self b⟩
theorem pair_fst : ∀ {es : List Ev} {L : List En}, Paired EvR es L → L.map (·.1) = es.map (·.1)
  | _, _, .nil => rfl
  | _, _, .cons h t => by rw [List.map_cons, List.map_cons, pair_fst t, h.1]
theorem keyed_all (I : Inv X pins σ H s) : ∀ {es : List Ev} {L : List En} {kvs : List (PyData × PyData)}, Paired EvR es L → es.map (·.1) = kvs.map (fun p => toKey p.1) → DpAll X.K H (es.map (·.2.1)) (kvs.map (·.1)) → (∀ p ∈ kvs, hashOk p.1 = true) → ∀ x ∈ L, NestedIs s.heap x.1 x.2.1
  | _, _, _, .nil, _, _, _, x, hx => nomatch hx
  | e :: es, l :: L, [], .cons h t, ek, _, _, x, hx => by simp at ek
  | e :: es, l :: L, p :: kvs, .cons h t, ek, a, ok, x, hx => by
    simp only [List.map_cons, List.cons.injEq] at ek
    rw [List.map_cons, List.map_cons] at a
    cases a with
    | cons a1 a2 =>
      rcases List.mem_cons.mp hx with rfl | hx
      · have := nest_of I p.1 _ _ a1 h.2.1 (ok p List.mem_cons_self)
        rw [← ek.1, h.1] at this
        exact this
      · exact keyed_all I t ek.2 a2 (fun q hq => ok q (List.mem_cons_of_mem _ hq)) x hx
theorem keyed_of (I : Inv X pins σ H s) {G : Hp} {es : List Ev} {L : List En} {kvs : List (PyData × PyData)} (eg : Ex G H) (D : DcEs X.tri G es kvs) (pr : Paired EvR es L) : Keyed s.heap L :=
  ⟨keyed_all I pr D.ks (dpa_mono eg D.dk) D.ok, by rw [pair_fst pr]; exact D.nd⟩
theorem kinds_of {es : List Ev} {L : List En} {kvs : List (PyData × PyData)} {k : PyData} (pr : Paired EvR es L) (ek : es.map (·.1) = kvs.map fun p => toKey p.1) : kinds (toKey k) L = kindsD k kvs := by
  have e : L.map (·.1) = kvs.map fun p => toKey p.1 := (pair_fst pr).trans ek
  have all : ∀ f : NestedKey → Bool, (L.all fun x => f x.1) = kvs.all fun p => f (toKey p.1) := fun f => by
    have h1 : (L.all fun x => f x.1) = (L.map (·.1)).all f := by rw [List.all_map]; rfl
    have h2 : (kvs.all fun p => f (toKey p.1)) = (kvs.map fun p => toKey p.1).all f := by rw [List.all_map]; rfl
    rw [h1, h2, e]
  unfold kinds kindsD
  rw [all isTupK, all isLeafK]
theorem find_pair {G : Hp} {K : PySem.W.Frag} {k : PyData} : ∀ {es : List Ev} {L : List En} {kvs : List (PyData × PyData)} {d : PyData}, Paired EvR es L → es.map (·.1) = kvs.map (fun p => toKey p.1) → DpAll K G (es.map (·.2.2)) (kvs.map (·.2)) → dFind k kvs = some d → ∃ x ∈ L, x.1 = toKey k ∧ ∃ v, RelV v x.2.2 ∧ Dp K G v d
  | [], _, [], d, .nil, _, _, h => by cases h
  | [], _, p :: kvs, d, .nil, ek, _, h => by simp at ek
  | e :: es, l :: L, [], d, .cons h t, ek, _, _ => by simp at ek
  | e :: es, l :: L, p :: kvs, d, .cons h t, ek, a, hf => by
    simp only [List.map_cons, List.cons.injEq] at ek
    rw [List.map_cons, List.map_cons] at a
    cases a with
    | cons a1 a2 =>
      unfold dFind at hf
      split at hf
      · rename_i hb
        cases hf
        exact ⟨l, List.mem_cons_self, by rw [← h.1, ek.1]; exact beq_iff.mp hb, _, h.2.2, a1⟩
      · obtain ⟨x, hx, r⟩ := find_pair t ek.2 a2 hf
        exact ⟨x, List.mem_cons_of_mem _ hx, r⟩
def putV (k : NestedKey) (u v : V) : List Ev → List Ev
  | [] => [(k, u, v)]
  | x :: r => if x.1 = k then (x.1, x.2.1, v) :: r else x :: putV k u v r
theorem put_pair {k : NestedKey} {u v : V} {u' v' : Value} (r1 : RelV u u') (r2 : RelV v v') : ∀ {es : List Ev} {L : List En}, Paired EvR es L → Paired EvR (putV k u v es) (putE k u' v' L)
  | _, _, .nil => .cons ⟨rfl, r1, r2⟩ .nil
  | e :: es, l :: L, .cons h t => by
    unfold putV putE
    rw [h.1]
    by_cases q : l.1 = k
    · rw [if_pos q, if_pos q]
      exact .cons ⟨rfl, h.2.1, r2⟩ t
    · rw [if_neg q, if_neg q]
      exact .cons h (put_pair r1 r2 t)
theorem putV_len {k : NestedKey} {u v : V} : ∀ es : List Ev, (putV k u v es).length ≤ es.length + 1
  | [] => Nat.le_refl _
  | x :: r => by
    unfold putV
    split
    · simp
    · have := putV_len (k := k) (u := u) (v := v) r
      simp only [List.length_cons]
      omega
theorem putV_keys {k : NestedKey} {u v : V} : ∀ {es : List Ev} {y : NestedKey}, y ∈ (putV k u v es).map (·.1) → y = k ∨ y ∈ es.map (·.1)
  | [], y, h => by
    simp [putV] at h
    exact .inl h
  | x :: r, y, h => by
    unfold putV at h
    split at h
    · exact .inr h
    · rcases List.mem_cons.mp h with h | h
      · exact .inr (by rw [List.map_cons]; exact List.mem_cons.mpr (.inl h))
      · rcases putV_keys h with h | h
        · exact .inl h
        · exact .inr (by rw [List.map_cons]; exact List.mem_cons_of_mem _ h)
theorem dc_put {T : Tri} {G : Hp} {k v : PyData} {u w : V} (hk : Dp T.K G u k) (hv : Dp T.K G w v) (hok : hashOk k = true) : ∀ {es : List Ev} {kvs : List (PyData × PyData)}, DcEs T G es kvs → DcEs T G (putV (toKey k) u w es) (dPut k v kvs)
  | [], [], _ => ⟨rfl, .cons hk .nil, .cons hv .nil, by simp [putV], fun p hp => by
      simp [dPut] at hp
      rw [hp]
      exact hok⟩
  | [], p :: kvs, D => by
    have := D.ks
    simp at this
  | e :: es, [], D => by
    have := D.ks
    simp at this
  | e :: es, p :: kvs, D => by
    have ek := D.ks
    simp only [List.map_cons, List.cons.injEq] at ek
    have d1 := D.dk
    have d2 := D.dv
    rw [List.map_cons, List.map_cons] at d1 d2
    have nd := D.nd
    rw [List.map_cons, List.nodup_cons] at nd
    cases d1 with
    | cons a1 a2 =>
      cases d2 with
      | cons b1 b2 =>
        unfold putV dPut
        by_cases q : e.1 = toKey k
        · have q2 : NestedKey.beq (toKey p.1) (toKey k) = true := beq_iff.mpr (ek.1.symm.trans q)
          rw [if_pos q, if_pos q2]
          exact ⟨by rw [List.map_cons, List.map_cons, ek.1, ek.2], .cons a1 a2, .cons hv b2, by rw [List.map_cons, List.nodup_cons]; exact nd, fun x hx => by
            rcases List.mem_cons.mp hx with rfl | hx
            · exact D.ok p List.mem_cons_self
            · exact D.ok x (List.mem_cons_of_mem _ hx)⟩
        · have q2 : ¬ NestedKey.beq (toKey p.1) (toKey k) = true := fun z => q (ek.1.trans (beq_iff.mp z))
          rw [if_neg q, if_neg q2]
          have ih := dc_put hk hv hok (es := es) (kvs := kvs) ⟨ek.2, a2, b2, nd.2, fun x hx => D.ok x (List.mem_cons_of_mem _ hx)⟩
          exact ⟨by rw [List.map_cons, List.map_cons, ek.1, ih.ks], .cons a1 ih.dk, .cons b1 ih.dv, by
            rw [List.map_cons, List.nodup_cons]
            exact ⟨fun z => (putV_keys z).elim q nd.1, ih.nd⟩, fun x hx => by
            rcases List.mem_cons.mp hx with rfl | hx
            · exact D.ok _ List.mem_cons_self
            · exact ih.ok x hx⟩
/-! ### subscripts -/
def rGetD (T : Tri) : V → V → Hp → VK → Prop := fun x y H Q => ∃ a es kvs G dk d, x = .ref a ∧ H a = some (DX T a es) ∧ Ex G H ∧ DcEs T G es kvs ∧ Dp T.K G y dk ∧ okKey dk kvs = true ∧ dFind dk kvs = some d ∧ ∀ v, Dp T.K G v d → Q v H
theorem okKey_of {k : PyData} {kvs : List (PyData × PyData)} (h : okKey k kvs = true) : hashOk k = true ∧ kindsD k kvs = true ∧ (toKey k).depth ≤ 8 := by
  unfold okKey at h
  rw [Bool.and_eq_true, Bool.and_eq_true] at h
  exact ⟨h.1.1, h.1.2, of_decide_eq_true h.2⟩
theorem hu_in1 {A : Around} (h : A.units + 190 < cLine) : A.in1.units + 8 < cLine := by
  have e : A.in1.units = A.units + 1 := rfl
  omega
theorem get_dx (c : Cxo X) : PGet X (rGetD X.tri) := by
  intro pins s σ H x y ov iv Q I rx ry ⟨a, es, kvs, G, dk, d, ex, ha, eg, D, hk, ok, hf, q⟩
  subst ex
  cases rx
  obtain ⟨⟨hs, hz, L, pr, hd⟩, _, _⟩ := I.hok a _ ha
  obtain ⟨o1, o2, o3⟩ := okKey_of ok
  obtain ⟨z, hzL, ez, v, rv, dv⟩ := find_pair pr D.ks D.dv hf
  exact item_raw (hu_in1 c.hu) hd (keyed_of I eg D pr) (nest_of I dk y iv (dp_mono eg hk) ry o1) (by rw [kinds_of pr D.ks]; exact o2) o3 hzL ez fun t => ⟨v, H, I.tok t, rv, q v dv⟩
def rSetD (T : Tri) : TSet := fun x y z H Q => ∃ a es kvs G dk dv, x = .ref a ∧ H a = some (DX T a es) ∧ Ex G H ∧ DcEs T G es kvs ∧ Dp T.K G y dk ∧ Dp T.K G z dv ∧ okKey dk kvs = true ∧ kvs.length < big ∧ ∀ es', DcEs T G es' (dPut dk dv kvs) → Q (upd H a (DX T a es'))
theorem dc_len {T : Tri} {G : Hp} {es : List Ev} {kvs : List (PyData × PyData)} (D : DcEs T G es kvs) : es.length = kvs.length := by
  have := congrArg List.length D.ks
  simpa using this
theorem pr_len {es : List Ev} {L : List En} (pr : Paired EvR es L) : L.length = es.length := by
  have := congrArg List.length (pair_fst pr)
  simpa using this
theorem set_dx (c : Cxo X) : PSet X (rSetD X.tri) := by
  intro pins s σ H x y z ov iv u Q I rx ry rz ⟨a, es, kvs, G, dk, dv, ex, ha, eg, D, hk, hv, ok, hl, q⟩
  subst ex
  cases rx
  obtain ⟨⟨hs, hz, L, pr, hd⟩, _, _⟩ := I.hok a _ ha
  obtain ⟨o1, o2, o3⟩ := okKey_of ok
  have ll := dc_len D
  have hlen := putV_len (k := toKey dk) (u := y) (v := z) es
  refine store_raw (hu_in1 c.hu) hd (keyed_of I eg D pr) (nest_of I dk y iv (dp_mono eg hk) ry o1) (by rw [kinds_of pr D.ks]; exact o2) o3 (by rw [pr_len pr]; exact hz) fun h' t hd' sb => ?_
  refine ⟨upd H a (DX X.tri a (putV (toKey dk) y z es)), I.write (x := a) (e := a) (by rw [ha]; trivial) (.inl rfl) (fun b o hb e => (sb.2 b hb).trans e) ?_ ?_, q _ (dc_put hk hv o1 D)⟩
  · obtain ⟨o, _, e, _⟩ := hd'
    exact ⟨o, e⟩
  · have ok2 : (putV (toKey dk) y z es).length ≤ sizeLine := Nat.le_trans hlen (by rw [ll]; exact big_lt hl)
    refine ⟨⟨hs, ok2, _, put_pair ry rz pr, hd'⟩, let ⟨o, _, e, _⟩ := hd'; ⟨o, e⟩, fun h1 h2 ⟨z1, z2, L', z3, o, ep, z4, z5⟩ k => ⟨z1, z2, L', z3, o, ep, k o z4, z5⟩⟩
end
/-! ### the dict of a slot -/
def dcAt (i : Nat) (ρ : Ro) : R (LS × List (PyData × PyData)) := match ρ[i]? with
  | some (some (.ob .own (.dc kvs))) => .ok (.own, kvs)
  | some (some (.ob .rf (.dc kvs))) => .ok (.rf, kvs)
  | _ => .bad
def dcRd (i : Nat) (ρ : Ro) : R (List (PyData × PyData)) := match ρ[i]? with
  | some (some (.ob _ (.dc kvs))) => .ok kvs
  | _ => .bad
theorem dcAt_ok {i : Nat} {ρ : Ro} {k : LS} {c : List (PyData × PyData)} (e : dcAt i ρ = .ok (k, c)) : ρ[i]? = some (some (.ob k (.dc c))) ∧ k ≠ .lent := by
  unfold dcAt at e
  split at e
  · cases e
    exact ⟨by assumption, fun z => nomatch z⟩
  · cases e
    exact ⟨by assumption, fun z => nomatch z⟩
  · cases e
theorem dcRd_ok {i : Nat} {ρ : Ro} {c : List (PyData × PyData)} (e : dcRd i ρ = .ok c) : ∃ k, ρ[i]? = some (some (.ob k (.dc c))) := by
  unfold dcRd at e
  split at e
  · cases e
    exact ⟨_, by assumption⟩
  · cases e
theorem dx_of {K : Tri} {fm : Fm} {G H : Hp} {σ : L2.St} {ρ : Ro} {i : Nat} {k : LS} {kvs : List (PyData × PyData)} {v : V} (rp : Rp K fm G H σ ρ) (h : ρ[i]? = some (some (.ob k (.dc kvs)))) (hv : σ[i]? = some (some v)) : ∃ a es, v = .ref a ∧ H a = some (DX K a es) ∧ DcEs K G es kvs := by
  obtain ⟨w, h1, a, o, e, _, _, _, ha, _, es, rfl, D⟩ := rp.sl i _ h
  have ew : v = w := by
    rw [hv] at h1
    injection h1 with h1
    injection h1
  exact ⟨a, es, ew.trans e, ha, D⟩
/-- d[k] -/
@[simp] def mDGet (i : Nat) (m : M Hd) (ρ : Ro) : R (Hd × Ro) := (mVar i ρ).bind fun _ => (m ρ).bind fun p => (fz p.1 p.2).bind fun q => (dcRd i q.2).bind fun l => chk (okKey q.1 l = true) (match dFind q.1 l with
  | some d => .ok (.dat d, q.2)
  | none => .bad)
/-- d[k] = e -/
@[simp] def mDSet (i : Nat) (mk me : M Hd) (ρ : Ro) : R (Fl × Ro) := (me ρ).bind fun p => (fz p.1 p.2).bind fun q => (mVar i q.2).bind fun _ => (mk q.2).bind fun r => (fz r.1 r.2).bind fun t => (dcAt i t.2).bind fun l => chk (okKey t.1 l.2 = true ∧ l.2.length < big) (.ok (.nx, putC i l.1 (.dc (dPut t.1 q.1 l.2)) t.2))
/-- d[k] op= e -/
@[simp] def mDAug (i : Nat) (f : PyData → PyData → R PyData) (mk me : M Hd) (ρ : Ro) : R (Fl × Ro) := (mVar i ρ).bind fun _ => (mk ρ).bind fun r => (fz r.1 r.2).bind fun t => (dcRd i t.2).bind fun l0 => chk (okKey t.1 l0 = true) (match dFind t.1 l0 with
  | none => .bad
  | some a => (me t.2).bind fun p => (rs p.1 p.2).bind fun b => (f a b).bind fun d => (dcAt i p.2).bind fun l => chk (okKey t.1 l.2 = true ∧ l.2.length < big) (.ok (.nx, putC i l.1 (.dc (dPut t.1 d l.2)) p.2)))
section
variable {X : Cx} {ie e : Expr} {pos apos spos : Pos} {x : Str} {m n : M Hd}
theorem dx_ty {pins : List (Addr × Obj)} {σ : L2.St} {H : Hp} {s : Shared} {a : Addr} {es : List Ev} (I : Inv X pins σ H s) (ha : H a = some (DX X.tri a es)) : s.TypeIs (.ref a) "dict" := by
  obtain ⟨⟨_, _, L, _, hd⟩, _, _⟩ := I.hok a _ ha
  exact hd.ty
theorem pe_dsub {o i : Expr} {to ti : TE} (c : Cxo X) (ho : PE X o to) (hi : PE X i ti) (hs : NoSl i) : PE X (.Subscript o i apos) (fun σ H Q => to σ H fun x H1 => ti σ H1 fun y H2 => rGetD X.tri x y H2 Q) := by
  refine ⟨fun pins s σ H Q I h => ?_⟩
  refine subD_of PySem.F.slot_dict_getitem.lookup hs (thn (ho.run pins s σ H _ I h) fun u s1 ⟨x, H1, I1, rx, q1⟩ => thn (hi.run pins s1 σ H1 _ I1 q1) fun iv s2 ⟨y, H2, I2, ry, q2⟩ => ?_)
  have g := get_dx c pins s2 σ H2 x y u iv Q I2 rx ry q2
  obtain ⟨a, es, kvs, G, dk, d, ex, ha, _⟩ := q2
  subst ex
  cases rx
  exact ⟨dx_ty I2 ha, g⟩
theorem se_dget (c : Cxo X) (i : Nat) (hi : PE X ie (TM X.tri m)) (hN : X.N[i]? = some x := by rfl) (hv : Vis X.env.scope x := by first | exact Or.inl rfl | exact Or.inr (Or.inl rfl) | exact Or.inr (Or.inr rfl)) (hd : (x == ("__debug__" : Str)) = false := by rfl)
    (hcd : (x == ("__classdict__" : Str)) = false := by rfl) (hs : NoSl ie := by intro _ _; rfl) : PE X (.Subscript (.Name x pos) ie apos) (TM X.tri (mDGet i m)) :=
  pe_imp (pe_dsub c (pe_var hN hv hd hcd) hi hs) fun σ H Q ⟨fm, G, ρ, h, ρ', rp, e, k⟩ => by
    obtain ⟨⟨h0, ρ0⟩, e0, e⟩ := R.of_bind e
    obtain ⟨⟨h1, ρ1⟩, e1, e⟩ := R.of_bind e
    obtain ⟨⟨dk, ρ2⟩, e2, e⟩ := R.of_bind e
    obtain ⟨kvs, e3, e⟩ := R.of_bind e
    obtain ⟨hok, e⟩ := chk_ok e
    cases hf : dFind dk kvs with
    | none =>
      simp only [hf] at e
      cases e
    | some z =>
      simp only [hf] at e
      cases e
      obtain ⟨v, hv2⟩ := var_slot rp e0
      refine ⟨v, hv2, fm, G, ρ, h1, ρ1, rp, e1, fun y G1 H1 x1 rp1 hy => ?_⟩
      obtain ⟨G2, x2, rp2, hd2⟩ := fz_ok rp1 hy e2
      obtain ⟨kk, h3⟩ := dcRd_ok e3
      obtain ⟨a, es, rfl, ha, D⟩ := dx_of rp2 h3 hv2
      exact ⟨a, es, kvs, G2, dk, _, rfl, ha, rp2.gh, D, hd2, hok, hf, fun w hw => k w G2 H1 (x1.trans x2) rp2 hw⟩
theorem rp_dput {fm : Fm} {G H : Hp} {σ : L2.St} {ρ : Ro} {i : Nat} {k : LS} {kvs kvs' : List (PyData × PyData)} {a : Addr} {es' : List Ev} (rp : Rp X.tri fm G H σ ρ) (h : ρ[i]? = some (some (.ob k (.dc kvs)))) (hk : k ≠ .lent) (hv : σ[i]? = some (some (.ref a))) (D : DcEs X.tri G es' kvs') :
    Rp X.tri fm G (upd H a (DX X.tri a es')) σ (putC i k (.dc kvs') ρ) := rp.mutC h hk hv trivial ⟨es', rfl, D⟩
theorem ss_dset (c : Cxo X) (i : Nat) (hi : PE X ie (TM X.tri m)) (he : PE X e (TM X.tri n)) (hN : X.N[i]? = some x := by rfl) (hv : Vis X.env.scope x := by first | exact Or.inl rfl | exact Or.inr (Or.inl rfl) | exact Or.inr (Or.inr rfl)) (hd : (x == ("__debug__" : Str)) = false := by rfl)
    (hcd : (x == ("__classdict__" : Str)) = false := by rfl)
    (ha : ∀ v, assign (.Subscript (.Name x pos) ie apos) X.env v = (do
      let ov ← holding [v] (eval (.Name x pos) X.env)
      let iv ← holding [v, ov] (eval ie X.env)
      standAt apos
      holding [v, ov, iv] (setItem ov iv v)
      release [v, ov, iv] []) := by intro _; rfl)
    (hs : swapsWithSole [.Subscript (.Name x pos) ie apos] e spos.line X.env = pure false := by rfl) (hw : swappedStores [.Subscript (.Name x pos) ie apos] e X.env = pure none := by rfl)
    (h1 : (assignEach [.Subscript (.Name x pos) ie apos] X.env).map (·.2) = [assign (.Subscript (.Name x pos) ie apos) X.env] := by rfl) :
    PS X (.Assign [.Subscript (.Name x pos) ie apos] e spos) (TS' X.tri (mDSet i m n)) :=
  ps_imp (ps_asg he (pg_sub (pe_var hN hv hd hcd) hi (set_dx c) ha) hs hw h1) fun D σ H ⟨fm, G, ρ, f, ρ', rp, e, k⟩ => by
    obtain ⟨⟨h1, ρ1⟩, e1, e⟩ := R.of_bind e
    obtain ⟨⟨d, ρ2⟩, e2, e⟩ := R.of_bind e
    obtain ⟨⟨h0, ρ0⟩, e0, e⟩ := R.of_bind e
    obtain ⟨⟨h3, ρ3⟩, e3, e⟩ := R.of_bind e
    obtain ⟨⟨dk, ρ4⟩, e4, e⟩ := R.of_bind e
    obtain ⟨⟨kk, kvs⟩, e5, e⟩ := R.of_bind e
    obtain ⟨⟨hok, hlen⟩, e⟩ := chk_ok e
    cases e
    refine ⟨fm, G, ρ, h1, ρ1, rp, e1, fun y G1 H1 x1 rp1 hy => ?_⟩
    obtain ⟨G2, x2, rp2, hd⟩ := fz_ok rp1 hy e2
    obtain ⟨v, hv⟩ := var_slot rp2 e0
    refine ⟨v, hv, fm, G2, ρ2, h3, ρ3, rp2, e3, fun w G3 H3 x3 rp3 hw => ?_⟩
    obtain ⟨G4, x4, rp4, hk⟩ := fz_ok rp3 hw e4
    obtain ⟨l5, nk⟩ := dcAt_ok e5
    obtain ⟨a, es, rfl, ha, De⟩ := dx_of rp4 l5 hv
    refine ⟨a, es, kvs, G4, dk, d, rfl, ha, rp4.gh, De, hk, dp_mono (x3.trans x4) hd, hok, hlen, fun es' D' => ?_⟩
    exact k G4 _ σ (((x1.trans x2).trans x3).trans x4) (rp_dput rp4 l5 nk hv D')
theorem ss_daug (c : Cxo X) (i : Nat) {op : Operator} {f : PyData → PyData → R PyData} (ho : IpD X op f) (hi : PE X ie (TM X.tri m)) (he : PE X e (TM X.tri n)) (hN : X.N[i]? = some x := by rfl) (hv : Vis X.env.scope x := by first | exact Or.inl rfl | exact Or.inr (Or.inl rfl) | exact Or.inr (Or.inr rfl)) (hd : (x == ("__debug__" : Str)) = false := by rfl)
    (hcd : (x == ("__classdict__" : Str)) = false := by rfl)
    (ha : ∀ ov iv new, augStore ie ov iv new = (do holding [new, ov, iv] (setItem ov iv new); release [new, ov, iv] []; pure .next) := by intros; rfl) :
    PS X (.AugAssign (.Subscript (.Name x pos) ie apos) op e spos) (TS' X.tri (mDAug i f m n)) := by
  obtain ⟨r, o1, o2⟩ := ho
  refine ps_imp (ps_augS (pe_var hN hv hd hcd) hi (get_dx c) he o1 (set_dx c) ha) fun D σ H ⟨fm, G, ρ, f, ρ', rp, e, k⟩ => ?_
  obtain ⟨⟨h0, ρ0⟩, e0, e⟩ := R.of_bind e
  obtain ⟨⟨h1, ρ1⟩, e1, e⟩ := R.of_bind e
  obtain ⟨⟨dk, ρ2⟩, e2, e⟩ := R.of_bind e
  obtain ⟨kvs0, e3, e⟩ := R.of_bind e
  obtain ⟨hok, e⟩ := chk_ok e
  cases hf : dFind dk kvs0 with
  | none =>
    simp only [hf] at e
    cases e
  | some z =>
    simp only [hf] at e
    obtain ⟨⟨h4, ρ4⟩, e4, e⟩ := R.of_bind e
    obtain ⟨b, e5, e⟩ := R.of_bind e
    obtain ⟨d, e6, e⟩ := R.of_bind e
    obtain ⟨⟨kk, kvs⟩, e7, e⟩ := R.of_bind e
    obtain ⟨⟨hok2, hlen⟩, e⟩ := chk_ok e
    cases e
    obtain ⟨v, hv⟩ := var_slot rp e0
    refine ⟨v, hv, fm, G, ρ, h1, ρ1, rp, e1, fun y G1 H1 x1 rp1 hy => ?_⟩
    obtain ⟨G2, x2, rp2, hk⟩ := fz_ok rp1 hy e2
    obtain ⟨k3, l3⟩ := dcRd_ok e3
    obtain ⟨a, es, rfl, ha, De⟩ := dx_of rp2 l3 hv
    refine ⟨a, es, kvs0, G2, dk, z, rfl, ha, rp2.gh, De, hk, hok, hf, fun w hw => ⟨fm, G2, ρ2, h4, ρ4, rp2, e4, fun q G4 H4 x4 rp4 hq => ?_⟩⟩
    refine o2 fm G4 H4 σ ρ4 w q z b d _ rp4 (dp_mono x4 hw) (rs_vw rp4 hq e5) e6 fun nw G5 H5 x5 rp5 hn => ?_
    obtain ⟨l7, nk⟩ := dcAt_ok e7
    obtain ⟨a', es5, ea, ha5, D5⟩ := dx_of rp5 l7 hv
    cases ea
    refine ⟨a, es5, kvs, G5, dk, d, rfl, ha5, rp5.gh, D5, dp_mono (x4.trans x5) hk, hn, hok2, hlen, fun es' D' => ?_⟩
    exact k G5 _ σ (((x1.trans x2).trans x4).trans x5) (rp_dput rp5 l7 nk hv D')
end
end FM
/-! new dicts -/
namespace FM
open PySem PySem.Spec PyProof.Rows L2 Evl

def NewD (K : Tri) (fm : Fm) (G H : Hp) (σ : L2.St) (ρ : Ro) (v : V) (kvs : List (PyData × PyData)) : Prop := ∃ p es, v = .ref p ∧ fm.F p = none ∧ fm.L p = none ∧ G p = none ∧ H p = some (DX K p es) ∧ DcEs K G es kvs ∧ ∀ (i : Nat) (sv : Sv), ρ[i]? = some (some sv) → Sv.owned sv → σ[i]? ≠ some (some (V.ref p))
def TD (K : Tri) (m : M (List (PyData × PyData))) : TE := fun σ H Q => ∃ fm G ρ a ρ', Rp K fm G H σ ρ ∧ m ρ = .ok (a, ρ') ∧ ∀ v G' H', Ex G G' → Rp K fm G' H' σ ρ' → NewD K fm G' H' σ ρ' v a → Q v H'
@[simp] def mSetD (i : Nat) (m : M (List (PyData × PyData))) (ρ : Ro) : R (Fl × Ro) := (m ρ).bind fun p => chk (notPin p.2 i = true) (.ok (.nx, p.2.set i (some (.ob .own (.dc p.1)))))
theorem Rp.putN {K : Tri} {fm : Fm} {G H : Hp} {σ : L2.St} {ρ : Ro} (r : Rp K fm G H σ ρ) {i : Nat} {v : V} {kvs : List (PyData × PyData)} (h : notPin ρ i = true) (hd : NewD K fm G H σ ρ v kvs) : Rp K fm G H (σ.set i (some v)) (ρ.set i (some (.ob .own (.dc kvs)))) := by
  obtain ⟨h1, h2⟩ := notPin_ok h
  obtain ⟨p, es, rfl, fp, lp, gp, hp, D, ow⟩ := hd
  exact r.put h1 h2 fun sv e => by
    cases e
    refine ⟨⟨p, _, rfl, gp, fp, lp, hp, trivial, es, rfl, D⟩, fun _ j s2 a ea _ hj oj z => ?_⟩
    cases ea
    exact ow j s2 hj oj z
theorem dc_nil {T : Tri} {G : Hp} : DcEs T G [] [] := ⟨rfl, .nil, .nil, List.nodup_nil, fun p hp => nomatch hp⟩
def dPuts : List (PyData × PyData) → List (PyData × PyData) → R (List (PyData × PyData))
  | [], kvs => .ok kvs
  | p :: r, kvs => chk (okKey p.1 kvs = true ∧ kvs.length < big) (dPuts r (dPut p.1 p.2 kvs))
def mPairs : List (M Hd × M Hd) → M (List Hd × List Hd)
  | [], ρ => .ok (([], []), ρ)
  | p :: r, ρ => (p.1 ρ).bind fun a => (p.2 a.2).bind fun b => (mPairs r b.2).bind fun c => .ok ((a.1 :: c.1.1, b.1 :: c.1.2), c.2)
/-- {k: v, ..} -/
def mDisp (ms : List (M Hd × M Hd)) (ρ : Ro) : R (List (PyData × PyData) × Ro) := (mPairs ms ρ).bind fun p => (fzs p.1.1 p.2).bind fun a => (fzs p.1.2 a.2).bind fun b => (dPuts (a.1.zip b.1) []).bind fun kvs => .ok (kvs, b.2)
section
variable {X : Cx} {pos : Pos}
theorem ss_setD {i : Nat} {x : Str} {pos' : Pos} {e : Expr} {ml : M (List (PyData × PyData))} (hN : X.N.Nodup) (he : PE X e (TD X.tri ml)) (hi : X.N[i]? = some x := by rfl) (hx : Loc X.env.scope x := by first | exact Or.inl rfl | exact Or.inr rfl)
    (hs : swapsWith e (some (.Name x pos')) pos.line X.env = pure false := by rfl) (hf : X.fn x = true ∨ X.env.scope.names.lookup x = some .local := by first | exact Or.inl rfl | exact Or.inr rfl) : PS X (.Assign [.Name x pos'] e pos) (TS' X.tri (mSetD i ml)) :=
  ps_imp (ps_set hN hi hx he hs hf) fun D σ H ⟨fm, G, ρ, f, ρ', rp, e, k⟩ => by
    obtain ⟨⟨xs, ρ1⟩, e1, e⟩ := R.of_bind e
    obtain ⟨hp, e⟩ := chk_ok e
    cases e
    exact ⟨fm, G, ρ, xs, ρ1, rp, e1, fun v G1 H1 x1 rp1 hv => k G1 H1 _ x1 (rp1.putN hp hv)⟩
theorem dx_new {H : Hp} {h : Heap} (hb : sysModules < h.objs.size) : ObjOk X.prog X.w (upd H h.objs.size (DX X.tri h.objs.size [])) (h.push { cls := .type "dict", data := .dict #[] }) h.objs.size (DX X.tri h.objs.size []) := by
  have e : (h.push { cls := .type "dict", data := .dict #[] }).get? h.objs.size = some { cls := .type "dict", data := .dict #[] } := Heap.get?_push_size _ rfl
  exact ⟨⟨beq_eq_false_iff_ne.mpr (Ne.symm (Nat.ne_of_lt hb)), Nat.zero_le _, [], .nil, _, 0, e, ⟨rfl, rfl, rfl⟩, rfl⟩, ⟨_, e⟩, fun h1 h2 ⟨z1, z2, L', z3, o, ep, z4, z5⟩ k => ⟨z1, z2, L', z3, o, ep, k o z4, z5⟩⟩
/-- {} -/
@[simp] def mEmp (ρ : Ro) : R (List (PyData × PyData) × Ro) := .ok ([], ρ)
theorem sd_emp : PE X (.Dict [] [] pos) (TD X.tri mEmp) := by
  refine ⟨fun pins s σ H Q I ⟨fm, G, ρ, a, ρ', rp, e, k⟩ => ?_⟩
  cases e
  have hn := I.hok.fresh (Nat.le_refl s.heap.objs.size)
  refine wpAny_Dict_empty ⟨.ref s.heap.objs.size, _, I.laid (a := s.heap.objs.size) (o := DX X.tri s.heap.objs.size []) (t' := s.toks) (fun _ _ q => Heap.get?_push_of_some _ q) (Nat.le_refl _) (dx_new I.big), rfl, k _ G _ (Ex.refl G) (rp.grow (Ex.new hn)) ⟨_, [], rfl, fresh_back rp.fh hn, fresh_back rp.lh hn, fresh_back rp.gh hn, upd_same, dc_nil, fun i sv h o z => ?_⟩⟩
  obtain ⟨v, h1, h2⟩ := rp.sl i sv h
  rw [z] at h1
  injection h1 with h1
  injection h1 with h1
  subst h1
  cases sv with
  | fz d => exact o
  | ob k c =>
    obtain ⟨a, us, e, _, _, _, ha, _⟩ := h2
    cases e
    rw [ha] at hn
    cases hn
/-- the pairs are put in -/
theorem store_all {pins : List (Addr × Obj)} {σ : L2.St} {G : Hp} {p : Addr} (c : Cxo X) (gp : G p = none) : ∀ (ds : List (PyData × PyData)) (ps : List (V × V)) (ws : List (Value × Value)) (H : Hp) (s : Shared) (es : List Ev) (kvs fin : List (PyData × PyData)) (Q : PUnit → Shared → Prop),
    Inv X pins σ H s → VV ps ws → DpAll X.K G (ps.map (·.1)) (ds.map (·.1)) → DpAll X.K G (ps.map (·.2)) (ds.map (·.2)) → H p = some (DX X.tri p es) → Ex G H → DcEs X.tri G es kvs → dPuts ds kvs = .ok fin →
    (∀ es' s', Inv X pins σ (upd H p (DX X.tri p es')) s' → DcEs X.tri G es' fin → Q PUnit.unit s') →
    wpAny (model X.prog X.w) X.A (forIn ws PUnit.unit fun (x : Value × Value) (_ : PUnit) => (do dictSet p x.1 x.2; pure (ForInStep.yield PUnit.unit) : Sem (ForInStep PUnit))) Q X.xe s
  | [], [], _, H, s, es, kvs, fin, Q, I, .nil, _, _, hp, eg, D, e, q => by
    cases e
    rw [List.forIn_nil]
    refine wpAny_pure (q es s ?_ D)
    have : upd H p (DX X.tri p es) = H := by
      funext b
      unfold upd
      split
      · rename_i h
        rw [h, hp]
      · rfl
    rw [this]
    exact I
  | [], _ :: _, _, _, _, _, _, _, _, _, _, d1, _, _, _, _, _, _ => by cases d1
  | _ :: _, [], _, _, _, _, _, _, _, _, _, d1, _, _, _, _, _, _ => by cases d1
  | (dk, dv) :: ds, (pk, pv) :: ps, _, H, s, es, kvs, fin, Q, I, .cons (b := (u, v)) h t, d1, d2, hp, eg, D, e, q => by
    obtain ⟨⟨ok, hl⟩, e⟩ := chk_ok e
    rw [List.map_cons, List.map_cons] at d1 d2
    cases d1 with
    | cons a1 a2 =>
      cases d2 with
      | cons b1 b2 =>
        obtain ⟨⟨hs, hz, L, pr, hd⟩, _, _⟩ := I.hok p _ hp
        obtain ⟨o1, o2, o3⟩ := okKey_of ok
        have ll := dc_len D
        have hlen := putV_len (k := toKey dk) (u := pk) (v := pv) es
        have hu : X.A.units + 8 < cLine := by have := c.hu; omega
        rw [List.forIn_cons]
        refine wpAny_bind (wpAny_bind (set_raw hu hd (keyed_of I eg D pr) (nest_of I dk pk u (dp_mono eg a1) h.1 o1) (by rw [kinds_of pr D.ks]; exact o2) o3 (by rw [pr_len pr]; exact hz) fun h' tt hd' sb => wpAny_pure ?_))
        have ok2 : (putV (toKey dk) pk pv es).length ≤ sizeLine := Nat.le_trans hlen (by rw [ll]; exact big_lt hl)
        have I2 : Inv X pins σ (upd H p (DX X.tri p (putV (toKey dk) pk pv es))) { s with heap := h', toks := tt } := I.write (x := p) (e := p) (by rw [hp]; trivial) (.inl rfl) (fun b o hb e => (sb.2 b hb).trans e) (let ⟨o, _, e, _⟩ := hd'; ⟨o, e⟩)
          ⟨⟨hs, ok2, _, put_pair h.1 h.2 pr, hd'⟩, let ⟨o, _, e, _⟩ := hd'; ⟨o, e⟩, fun h1 h2 ⟨z1, z2, L', z3, o, ep, z4, z5⟩ k => ⟨z1, z2, L', z3, o, ep, k o z4, z5⟩⟩
        refine store_all c gp ds ps _ _ _ _ _ fin Q I2 t a2 b2 upd_same (Ex.mut eg gp) (dc_put a1 b1 o1 D) e fun es' s' I3 D3 => q es' s' ?_ D3
        rw [upd_upd] at I3
        exact I3
theorem pairs_to {fm : Fm} {σ : L2.St} : ∀ (ms : List (M Hd × M Hd)) {G H : Hp} {ρ ρ' : Ro} {hk hv : List Hd} {Q : List (V × V) → Hp → Prop}, Rp X.tri fm G H σ ρ → mPairs ms ρ = .ok ((hk, hv), ρ') →
    (∀ ps G' H', Ex G G' → Rp X.tri fm G' H' σ ρ' → RelHs X.tri G' σ (ps.map (·.1)) hk → RelHs X.tri G' σ (ps.map (·.2)) hv → Q ps H') → tPairs (ms.map fun p => (TM X.tri p.1, TM X.tri p.2)) σ H Q
  | [], G, H, ρ, ρ', hk, hv, Q, rp, e, k => by
    cases e
    exact k [] G H (Ex.refl G) rp .nil .nil
  | p :: ms, G, H, ρ, ρ', hk, hv, Q, rp, e, k => by
    obtain ⟨⟨h1, ρ1⟩, e1, e⟩ := R.of_bind e
    obtain ⟨⟨h2, ρ2⟩, e2, e⟩ := R.of_bind e
    obtain ⟨⟨⟨r1, r2⟩, ρ3⟩, e3, e⟩ := R.of_bind e
    cases e
    refine ⟨fm, G, ρ, h1, ρ1, rp, e1, fun x G1 H1 x1 rp1 hx => ⟨fm, G1, ρ1, h2, ρ2, rp1, e2, fun y G2 H2 x2 rp2 hy => ?_⟩⟩
    exact pairs_to ms rp2 e3 fun ps G3 H3 x3 rp3 q1 q2 => k ((x, y) :: ps) G3 H3 ((x1.trans x2).trans x3) rp3 (.cons (relh_mono (x2.trans x3) hx) q1) (.cons (relh_mono x3 hy) q2)
theorem fzs_len : ∀ {hs : List Hd} {ρ ρ' : Ro} {ds : List PyData}, fzs hs ρ = .ok (ds, ρ') → ds.length = hs.length
  | [], _, _, _, e => by
    cases e
    rfl
  | h :: hs, _, _, _, e => by
    obtain ⟨p, e1, e⟩ := R.of_bind e
    obtain ⟨q, e2, e⟩ := R.of_bind e
    cases e
    rw [List.length_cons, List.length_cons, fzs_len e2]
theorem sd_disp (c : Cxo X) {keys : List (Option Expr)} {values : List Expr} {ms : List (M Hd × M Hd)} (h : PPs X pos keys values (ms.map fun p => (TM X.tri p.1, TM X.tri p.2))) (hall : keys.all (·.isSome) = true := by rfl) (hl : keys.length = values.length := by rfl) (h0 : keys ≠ [] := by intro z; cases z)
    (h15 : keys.length ≤ 15 := by decide) : PE X (.Dict keys values pos) (TD X.tri (mDisp ms)) := by
  refine ⟨fun pins s σ H Q I ⟨fm, G, ρ, a, ρ', rp, e, k⟩ => ?_⟩
  obtain ⟨⟨⟨hk, hv⟩, ρ1⟩, e1, e⟩ := R.of_bind e
  obtain ⟨⟨dks, ρ2⟩, e2, e⟩ := R.of_bind e
  obtain ⟨⟨dvs, ρ3⟩, e3, e⟩ := R.of_bind e
  obtain ⟨kvs, e4, e⟩ := R.of_bind e
  cases e
  have hn := I.hok.fresh (Nat.le_refl s.heap.objs.size)
  have fn : fm.F s.heap.objs.size = none := fresh_back rp.fh hn
  have ln : fm.L s.heap.objs.size = none := fresh_back rp.lh hn
  have I1 := I.laid (a := s.heap.objs.size) (o := DX X.tri s.heap.objs.size []) (t' := s.toks) (fun _ _ q => Heap.get?_push_of_some _ q) (Nat.le_refl _) (dx_new I.big)
  have hpl := pairTrees_length keys values X.env pos hall hl
  rw [arm_eval_Dict, zip_pairTrees keys values X.env pos hall hl, dictDisplay_pairs _ (fun z => h0 (List.length_eq_zero_iff.mp (hpl.symm.trans (by rw [z]; rfl)))) (by rw [hpl]; omega)]
  refine wpAny_bind (wpAny_standAt (wpAny_bind ?_))
  unfold subDict
  refine wpAny_bind (wpAny_alloc (wpAny_bind (wpAny_holding ?_)))
  rw [if_pos (by rw [hpl]; exact h15)]
  refine wpAny_bind (thn (h.run pins _ σ _ _ I1 (pairs_to (fm := ⟨upd fm.F s.heap.objs.size (DX X.tri s.heap.objs.size []), fm.L, fm.B⟩) ms (Q := fun ps H' => ∃ G', Ex G G' ∧ Rp X.tri ⟨upd fm.F s.heap.objs.size (DX X.tri s.heap.objs.size []), fm.L, fm.B⟩ G' H' σ ρ1 ∧ RelHs X.tri G' σ (ps.map (·.1)) hk ∧ RelHs X.tri G' σ (ps.map (·.2)) hv) (rp.make hn) e1 fun ps G' H' x' rp' q1 q2 => ⟨G', x', rp', q1, q2⟩)) fun ws s1 ⟨ps, H1, I2, vv, G1, x1, rp1, q1, q2⟩ => wpAny_holding (wpAny_bind ?_))
  obtain ⟨G2, x2, rp2, da⟩ := fzs_ok rp1 q1 e2
  obtain ⟨G3, x3, rp3, db⟩ := fzs_ok rp2 (relhs_mono x2 q2) e3
  have la := dpa_len da
  have lb := dpa_len db
  rw [List.length_map] at la lb
  have hp1 : H1 s.heap.objs.size = some (DX X.tri s.heap.objs.size []) := rp3.fh _ _ upd_same
  have gp : G3 s.heap.objs.size = none := rp3.fg _ (by
    show (upd fm.F s.heap.objs.size (DX X.tri s.heap.objs.size [])) s.heap.objs.size ≠ none
    rw [upd_same]
    exact fun z => nomatch z)
  refine store_all c gp (dks.zip dvs) ps ws H1 s1 [] [] _ _ I2 vv (by rw [List.map_fst_zip (by omega)]; exact dpa_mono x3 da) (by rw [List.map_snd_zip (by omega)]; exact db) hp1 rp3.gh dc_nil e4 fun es' s' I3 D3 => wpAny_pure (wpAny_pure (wpAny_pure ⟨.ref s.heap.objs.size, _, I3, rfl, ?_⟩))
  obtain ⟨r9, hD, gD, ow⟩ := (rp3.more (oo' := DX X.tri s.heap.objs.size es') ln).made' fn
  exact k _ G3 _ ((x1.trans x2).trans x3) r9 ⟨_, es', rfl, fn, ln, gD, hD, D3, ow⟩
end
end FM
/-! what a dict shows: its values, its keys, as a tuple, a list -/
namespace FM
open PySem PySem.Spec PyProof.Rows L2 Evl

section
variable {prog : Program} {w : World} {A : Around} {E : Value → Shared → Prop} {s : Shared}
theorem tuple_src {T : String} {r d : Addr} {n : Nat} {P : Nat → Value → Prop} {OK : Heap → Prop} {Q : Value → Shared → Prop} (S : PySem.W.KdlSrc prog w T r d n P OK) (hh : A.handled = none) (hok : OK s.heap) (hn : n ≤ sizeLine)
    (h : ∀ (h' : Heap) (tk : Nat) (acc : Array Value), (∀ b o, s.heap.get? b = some o → h'.get? b = some o) → ItemsOf P acc n → Q (.ref h'.objs.size) { s with heap := h'.push { cls := .type "tuple", data := .seq acc }, toks := tk }) :
    wpAny (model prog w) A (call (.type "tuple") [.ref r]) Q E s := by
  have g : MeetsIn prog w (Builtin.«tuple.__new__» ⟨[.type "tuple", .ref r], []⟩) (fun A' R s' => A'.handled = none ∧ OK s'.heap ∧ ∀ (h' : Heap) (tk : Nat) (acc : Array Value), (∀ b o, s'.heap.get? b = some o → h'.get? b = some o) → ItemsOf P acc n → R (.ok (.ret (.ref h'.objs.size))) { s' with heap := h'.push { cls := .type "tuple", data := .seq acc }, toks := tk }) :=
    .of_wp fun A' R s' hS => by
      obtain ⟨hp, g, dr, tk, os⟩ := s'
      obtain ⟨hh', hok', hq⟩ := hS
      have hsub := sub_tuple_self
      have hinit := init_tuple_lookup
      have hmh := madeHere_tuple
      have hT := S.type ⟨hp, g, dr, tk, os⟩ hok'
      have hnt := S.notTuple
      have hco : ∀ (E' : Value → Shared → Prop) (R' : List Value → Shared → Prop), (∀ (h' : Heap) (tk' : Nat) (acc : Array Value), (∀ b o, hp.get? b = some o → h'.get? b = some o) → ItemsOf P acc n → R' acc.toList { heap := h', gens := g, drawn := dr, toks := tk', os := os }) →
        wpAny (model prog w) A'.in1 (collect (.ref r)) R' E' ⟨hp, g, dr, tk, os⟩ := fun E' R' hR => PySem.W.kdu_collect (s := ⟨hp, g, dr, tk, os⟩) S hh' hok' hn hR
      have hh2 : A'.in1.handled = none := hh'
      wp_walk using wpAny_typeOf hT, PySem.W.kdu_collect (s := ⟨hp, g, dr, tk, os⟩) (A := A'.in1) S hh2 hok' hn
      intro h' tk2 acc hk ha
      have hz : acc.size ≤ sizeLine := by rw [ha.1]; exact hn
      refine (show wpAny _ _ (Builtin.Tuple.tupleExact acc.toList.toArray >>= fun v => ret v) _ _ _ from ?_)
      rw [show acc.toList.toArray = acc by simp]; unfold Builtin.Tuple.tupleExact
      exact wpAny_bind (wpAny_newObj_type (wpAny_pure ⟨_, rfl, hq h' tk2 acc hk ha⟩) hz)
  exact callType_newIn PySem.F.called_tuple (by decide) (PySem.F.typeCall_tuple_1 _) (PySem.F.newCall_tuple_1 _) (fun obj => PySem.F.args_object_init_2 obj _) PySem.F.entry_tuple_new g ⟨hh, hok, fun h' tk acc hk ha => ⟨⟨_, Heap.get?_push_size _ rfl, rfl⟩, h h' tk acc hk ha⟩⟩
end
/-! ### values() as it stands: a view -/
def viewO (cls : String) (p d : Addr) : HO := .ext fun h => ∃ o, h.get? p = some o ∧ o.cls = .type cls ∧ o.data = .fields #[.ref d]
theorem viewO_ok {P : Program} {w : World} {H : Hp} {h : Heap} {p d : Addr} {cls : String} (e : h.get? p = some { cls := .type cls, data := .fields #[.ref d] }) : ObjOk P w H h p (viewO cls p d) :=
  ⟨⟨_, e, rfl, rfl⟩, ⟨_, e⟩, fun h1 h2 x k => let ⟨o, ho, r⟩ := x; ⟨o, k o ho, r⟩⟩
theorem HasD.raw {w : World} {h : Heap} {d : Addr} {L : List En} (hd : HasD w h d L) : ∃ ep, h.DictRaw d (L.map (entN w)).toArray ep := let ⟨o, ep, r⟩ := hd; ⟨ep, o, r⟩
section
variable {X : Cx} {o : Expr} {to : TE} {apos cpos : Pos}
def tView (T : Tri) (cls : String) (to : TE) : TE := fun σ H Q => to σ H fun x H1 => ∃ a es, x = .ref a ∧ H1 a = some (DX T a es) ∧ ∀ p, H1 p = none → Q (.ref p) (upd H1 p (viewO cls p a))
theorem pe_view {cls : String} {name : Str} {id : String} {B : Builtin} (pa : PlainAttrs "dict") (slot : Slot "dict" name id) (hty : typeOf (.builtin id) = pure (.type "method_descriptor")) (en : entryFor table id = some B) (ar : ∀ a, argsOk id ⟨[a], []⟩)
    (mt : ∀ d, (d == sysModules) = false → MeetsIn X.prog X.w (B ⟨[.ref d], []⟩) (fun _ R s => (∃ es ep, s.heap.DictRaw d es ep) ∧ R (.ok (.ret (.ref s.heap.objs.size))) { s with heap := s.heap.push { cls := .type cls, data := .fields #[.ref d] } }))
    (ho : PE X o to) (hbase : attributeBase o name X.env (eval o X.env) = eval o X.env := by rfl) (hline : (apos.endLine == cpos.line) = true := by rfl) : PE X (.Call (.Attribute o name apos) [] [] cpos) (tView X.tri cls to) := by
  refine ⟨fun pins s σ H Q I h => ?_⟩
  refine wpAny_Call_method0_late hbase hline (thn (ho.run pins s σ H _ I h) fun v s1 ⟨x, H1, I1, r1, a, es, ex, ha, q⟩ => ?_)
  subst ex
  cases r1
  obtain ⟨⟨hs, hz, L, pr, hd⟩, _, _⟩ := I1.hok a _ ha
  obtain ⟨ep, hr⟩ := hd.raw
  refine ⟨"dict", id, pa, slot, hty, hd.ty, fun b e => ?_, Calls.callWith_builtin rfl (PySem.evalArgs_none (call_meetsIn slot hd.ty en (ar _) (mt a hs) ⟨⟨_, _, hr⟩, ⟨.ref _, _, I1.laid (t' := s1.toks) (fun b u e => Heap.get?_push_of_some _ e) (Nat.le_refl _) (viewO_ok (Heap.get?_push_size _ rfl)), rfl, q _ (I1.hok.fresh (Nat.le_refl _))⟩⟩))⟩
  cases e
  obtain ⟨ob, _, h1, h2, _⟩ := hd
  exact ⟨ob, h1, h2.2.1⟩
theorem pe_values (ho : PE X o to) (hbase : attributeBase o "values" X.env (eval o X.env) = eval o X.env := by rfl) (hline : (apos.endLine == cpos.line) = true := by rfl) : PE X (.Call (.Attribute o "values" apos) [] [] cpos) (tView X.tri "dict_values" to) :=
  pe_view PySem.F.plainAttrs_dict PySem.F.slot_dict_values PySem.F.type_dict_values PySem.F.entry_dict_values (fun a => PySem.F.args_dict_values_1 a) (fun d hd => PySem.meets_dict_values_raw d hd) ho hbase hline
/-- what is gathered from the entries -/
theorem gathered {w : World} {es : List Ev} {L : List En} (pr : Paired EvR es L) {acc : Array Value} (ha : ItemsOf (fun i v => ∃ hi : i < (L.map (entN w)).toArray.size, v = (L.map (entN w)).toArray[i].val) acc (L.map (entN w)).toArray.size) : Vals (es.map (·.2.2)) acc.toList := by
  have e : acc.toList = L.map (·.2.2) := by
    apply List.ext_getElem?
    intro i
    rw [List.getElem?_map]
    cases q : acc.toList[i]? with
    | none =>
      have h1 := List.getElem?_eq_none_iff.mp q
      have h2 : acc.size = L.length := by rw [ha.1]; simp
      rw [List.getElem?_eq_none (by simp at h1; omega)]
      rfl
    | some v =>
      obtain ⟨hi, ev⟩ := ha.2 i v (by rw [← Array.getElem?_toList]; exact q)
      have hl : i < L.length := by simpa using hi
      rw [List.getElem?_eq_getElem hl]
      simp at ev
      rw [ev]
      rfl
  rw [e]
  clear e ha
  induction pr with
  | nil => exact .nil
  | cons h t ih => exact .cons h.2.2 ih
theorem cr_tupVals (c : Cxo X) : CallR X (.type "tuple") (fun vs H Q => ∃ p a es kvs G, vs = [.ref p] ∧ H p = some (viewO "dict_values" p a) ∧ H a = some (DX X.tri a es) ∧ Ex G H ∧ DcEs X.tri G es kvs ∧ ∀ q ws, DpAll X.K G ws (kvs.map (·.2)) → H q = none → Q (.ref q) (upd H q (.tup ws))) := by
  intro pins s σ H xs us Q I r ⟨p, a, es, kvs, G, e, hp, ha, eg, D, q⟩
  subst e
  obtain ⟨u, rfl, rx⟩ := vals1 r
  cases rx
  obtain ⟨⟨hs, hz, L, pr, hd⟩, _, _⟩ := I.hok a _ ha
  obtain ⟨hv, _, _⟩ := I.hok p _ hp
  obtain ⟨ep, hr⟩ := hd.raw
  have hh : X.A.handled = none := I.ok.hd c.calm
  refine tuple_src (KdlSrc.rawValues (prog := X.prog) (w := X.w) (r := p) (d := a) (es := (L.map (entN X.w)).toArray) (ep := ep)) hh ⟨hv, hr⟩ (by simp [pr_len pr]; exact hz) fun h' tk acc hk hacc => ?_
  have rv := gathered pr hacc
  have I1 : Inv X pins σ H { s with heap := h', toks := tk } := I.kept (t' := tk) hk
  have hl : (es.map (·.2.2)).length ≤ sizeLine := by rw [List.length_map]; exact hz
  exact ⟨.ref h'.objs.size, _, I1.laid (t' := tk) (o := .tup (es.map (·.2.2))) (fun b o e => Heap.get?_push_of_some _ e) (Nat.le_refl _) ⟨hl, acc.toList, rv, IsTup.new _ _⟩, rfl, q _ _ D.dv (I1.hok.fresh (Nat.le_refl _))⟩
/-- tuple(d.values()) -/
@[simp] def mTupVals (i : Nat) (ρ : Ro) : R (Hd × Ro) := (mVar i ρ).bind fun _ => (dcRd i ρ).bind fun kvs => .ok (.dat (.tuple (kvs.map (·.2))), ρ)
theorem view_ne {T : Tri} {cls : String} {p a : Addr} {H : Hp} {o : HO} (ha : H a = some o) (hp : H p = none) : (upd H p (viewO cls p a)) a = some o := (upd_ne (ne_of_none ha hp)).trans ha
theorem se_tupVals (c : Cxo X) (i : Nat) {x T : Str} {p1 pos cp : Pos} (hm : X.mg T = none) (hb : bootBuiltins T = some (.type "tuple")) (hN : X.N[i]? = some x := by rfl) (hv : Vis X.env.scope x := by first | exact Or.inl rfl | exact Or.inr (Or.inl rfl) | exact Or.inr (Or.inr rfl)) (hd : (x == ("__debug__" : Str)) = false := by rfl)
    (hcd : (x == ("__classdict__" : Str)) = false := by rfl) (hbase : attributeBase (.Name x p1) "values" X.env (eval (.Name x p1) X.env) = eval (.Name x p1) X.env := by rfl) (hline : (apos.endLine == cpos.line) = true := by rfl) (hg : Gl X T := by rfl) (hn : T ≠ "__name__" := by decide) (hdb : (T == ("__debug__" : Str)) = false := by rfl)
    (he : starEach [.Call (.Attribute (.Name x p1) "values" apos) [] [] cpos] X.env = (false, eval (.Call (.Attribute (.Name x p1) "values" apos) [] [] cpos) X.env) :: starEach [] X.env := by rfl) (hpl : (backTo cp (starEach [] X.env)).any (·.1) = false := by rfl) :
    PE X (.Call (.Name T pos) [.Call (.Attribute (.Name x p1) "values" apos) [] [] cpos] [] cp) (TM X.tri (mTupVals i)) :=
  pe_imp (pe_callTy (cr_tupVals c) hg hm hb (pa_cons (pe_values (pe_var hN hv hd hcd) hbase hline) pa_nil he) hn hdb he hpl) fun σ H Q ⟨fm, G, ρ, h, ρ', rp, e, k⟩ => by
    obtain ⟨⟨h0, ρ0⟩, e0, e⟩ := R.of_bind e
    obtain ⟨kvs, e1, e⟩ := R.of_bind e
    cases e
    obtain ⟨v, hv2⟩ := var_slot rp e0
    obtain ⟨kk, l1⟩ := dcRd_ok e1
    obtain ⟨a, es, rfl, ha, D⟩ := dx_of rp l1 hv2
    refine ⟨.ref a, hv2, a, es, rfl, ha, fun p hp => ⟨p, a, es, kvs, G, rfl, upd_same, view_ne (T := X.tri) ha hp, rp.gh.trans (Ex.new hp), D, fun q ws dw hq => ?_⟩⟩
    have r1 := rp.grow (Ex.new (o := viewO "dict_values" p a) hp)
    have gq : G q = none := fresh_back r1.gh hq
    exact k _ _ _ (Ex.new gq) (r1.gnew hq) (.tup (st_of upd_same) (dpa_mono (Ex.new gq) dw))
end
end FM
/-! calls with keywords -/
namespace FM
open PySem PySem.Spec PyProof.Rows L2 Evl

@[simp] def pick {α : Type} (perm : List Nat) (l : List α) : List α := perm.filterMap fun i => l[i]?
theorem vals_at : ∀ {vs : List V} {us : List Value} (i : Nat), Vals vs us → (vs[i]? = none ∧ us[i]? = none) ∨ ∃ v u, vs[i]? = some v ∧ us[i]? = some u ∧ RelV v u
  | _, _, _, .nil => .inl ⟨rfl, rfl⟩
  | _, _, 0, .cons r _ => .inr ⟨_, _, rfl, rfl, r⟩
  | _, _, i + 1, .cons _ t => by
    rcases vals_at i t with ⟨h1, h2⟩ | ⟨v, u, h1, h2, h3⟩
    · exact .inl ⟨by simpa using h1, by simpa using h2⟩
    · exact .inr ⟨v, u, by simpa using h1, by simpa using h2, h3⟩
theorem vals_pick {vs : List V} {us : List Value} (r : Vals vs us) : ∀ perm, Vals (pick perm vs) (pick perm us)
  | [] => .nil
  | i :: perm => by
    unfold pick
    rw [List.filterMap_cons, List.filterMap_cons]
    rcases vals_at i r with ⟨h1, h2⟩ | ⟨v, u, h1, h2, h3⟩
    · rw [h1, h2]
      exact vals_pick r perm
    · rw [h1, h2]
      exact .cons h3 (vals_pick r perm)
theorem dpa_pick {K : PySem.W.Frag} {G : Hp} {vs : List V} {ds : List PyData} (a : DpAll K G vs ds) : ∀ perm, DpAll K G (pick perm vs) (pick perm ds)
  | [] => .nil
  | i :: perm => by
    unfold pick
    rw [List.filterMap_cons, List.filterMap_cons]
    cases h : vs[i]? with
    | none =>
      have h2 : ds[i]? = none := List.getElem?_eq_none (by rw [← dpa_len a]; exact List.getElem?_eq_none_iff.mp h)
      rw [h2]
      exact dpa_pick a perm
    | some v =>
      obtain ⟨d, h2, h3⟩ := dpa_get a h
      rw [h2]
      exact .cons h3 (dpa_pick a perm)
theorem relhs_app {K : Tri} {G : Hp} {σ : L2.St} : ∀ {vs ws : List V} {hs ks : List Hd}, RelHs K G σ vs hs → RelHs K G σ ws ks → RelHs K G σ (vs ++ ws) (hs ++ ks)
  | _, _, _, _, .nil, b => b
  | _, _, _, _, .cons h a, b => .cons h (relhs_app a b)
section
variable {X : Cx} {k n m j : Nat} {x : Str} {st : Stmt} {ps ks : List Str} {p pos : Pos} {e : Expr} {es : List Expr} {kws : List Keyword} {ms mk : M (List Hd)} {nm : Option Str} {kpos : Pos} {me : M Hd} {mg : Str → Option Value} {K : PySem.W.Frag}
theorem kbn_of {f : Addr} {fd : FuncData} (perm : List Nat) (F : Fun K x x st f fd) (h : ∀ (kV doc pm : Value) (an : Option Addr) (cdv ct : Value) (us ws : List Value), us.length = n → ws.length = ks.length → bindArgs (PySem.W.fnOf x x (defArgs st) (defBody st) (defScope st) .none kV doc pm an cdv ct) ⟨us, ks.zip ws⟩ = pure (ps.zip (pick perm (us ++ ws)))) :
    KBn K fd ps n ks (fun us ws => pick perm (us ++ ws)) (fun us ws => pick perm (us ++ ws)) := by
  obtain ⟨oc, od, kV, doc, pm, an, cdv, ct, osl, rfl, lk, hcd⟩ := F.ex
  exact ⟨fun s us ws _ l1 l2 => BindsTo.of_eq (h kV doc pm an cdv ct us ws l1 l2), fun r rz => vals_pick (r.append rz) perm⟩
def PKs (X : Cx) (kws : List Keyword) (ms : M (List Hd)) : Prop := PK X kws (TAs X.tri ms)
theorem pk_imp {t t' : TA} (h : PK X kws t) (k : ∀ σ H Q, t' σ H Q → t σ H Q) : PK X kws t' := ⟨fun pos pins s σ H Q I q => h.run pos pins s σ H Q I (k σ H Q q)⟩
theorem sk_nil : PK X [] (TAs X.tri mNil) := pk_imp pk_nil fun σ H Q ⟨fm, G, ρ, h, ρ', rp, e, k⟩ => by
  cases e
  exact k [] G H (Ex.refl G) rp .nil
theorem sk_cons (ha : PE X e (TM X.tri me)) (hr : PK X kws (TAs X.tri ms)) : PK X (⟨nm, e, kpos⟩ :: kws) (TAs X.tri (mCons me ms)) :=
  pk_imp (pk_cons ha hr) fun σ H Q ⟨fm, G, ρ, h, ρ', rp, e, k⟩ => by
    obtain ⟨⟨h1, ρ1⟩, e1, e⟩ := R.of_bind e
    obtain ⟨⟨h2, ρ2⟩, e2, e⟩ := R.of_bind e
    cases e
    exact ⟨fm, G, ρ, h1, ρ1, rp, e1, fun x G1 H1 x1 rp1 hx => ⟨fm, G1, ρ1, h2, ρ2, rp1, e2, fun y G2 H2 x2 rp2 hy => k (x :: y) G2 H2 (x1.trans x2) rp2 (.cons (relh_mono x2 hx) hy)⟩⟩
@[simp] def mCallK (n j : Nat) (perm : List Nat) (f : List PyData → R PyData) (ms mk : M (List Hd)) (ρ : Ro) : R (Hd × Ro) := (ms ρ).bind fun p => (mk p.2).bind fun q => chk (p.1.length = n ∧ q.1.length = j) ((fzs (p.1 ++ q.1) q.2).bind fun r => (f (pick perm r.1)).bind fun d => .ok (.dat d, r.2))
theorem callk_to {g : List PyData → R PyData} {perm : List Nat} {nn : Nat} : ∀ σ H Q, TM X.tri (mCallK n j perm (fun ds => chk (ds.length = nn) (g ds)) ms mk) σ H Q → tCallN n j (SpP X.tri nn g) (fun us ws => pick perm (us ++ ws)) E0 (TAs X.tri ms) (TAs X.tri mk) σ H Q := fun σ H Q ⟨fm, G, ρ, h, ρ', rp, e, k⟩ => by
  obtain ⟨⟨hs, ρ1⟩, e1, e⟩ := R.of_bind e
  obtain ⟨⟨hk, ρ2⟩, e2, e⟩ := R.of_bind e
  obtain ⟨⟨l1, l2⟩, e⟩ := chk_ok e
  obtain ⟨⟨ds, ρ3⟩, e3, e⟩ := R.of_bind e
  obtain ⟨d, e4, e⟩ := R.of_bind e
  cases e
  obtain ⟨hl, e4⟩ := chk_ok e4
  refine ⟨fm, G, ρ, hs, ρ1, rp, e1, fun vs G1 H1 x1 rp1 hv => ⟨fm, G1, ρ1, hk, ρ2, rp1, e2, fun ws G2 H2 x2 rp2 hw => ?_⟩⟩
  have hv2 := relhs_mono x2 hv
  obtain ⟨G3, x3, rp3, da⟩ := fzs_ok rp2 (relhs_app hv2 hw) e3
  refine ⟨by rw [relhs_len hv]; exact l1, by rw [relhs_len hw]; exact l2, guard fm H2 σ ρ3 none, G3, pick perm ds, d, rp3.gh, guard_ex rp3, guard_disj rp3, dpa_pick da perm, hl, e4, fun v G' H' x' h1 h2 h3 hd => ?_⟩
  exact k v G' H' (((x1.trans x2).trans x3).trans x') (rp3.called x' h1 h2 h3) hd
theorem pe_callN0 {f : Addr} {fd : FuncData} {sp : Sp} {g : List Value → List Value → List Value} {gV : List V → List V → List V} {tk : TA} (F : FnOk X.prog X.w X.K X.mg X.base CX0 k f fd ps sp) (hr : Room k X.A) (hg : Gl X x) (hm : X.mg x = some (.ref f)) (hk : PySem.W.keepIn X.K (.ref f) = true) (hb : KBn X.K fd ps 0 ks g gV) (hx : Passes CX0 X E0)
    (hkw : PK X kws tk) (hall : (backToKw pos (keywordEach kws X.env)).all (·.1.isSome) = true := by rfl) (hks : (backToKw pos (keywordEach kws X.env)).filterMap (·.1) = ks := by rfl)
    (hdb : (x == ("__debug__" : Str)) = false := by decide)
    (hpl : ((backTo pos (starEach [] X.env)).any (·.1) || (backToKw pos (keywordEach kws X.env)).any (·.1.isNone)) = false := by rfl) :
    PE X (.Call (.Name x p) [] kws pos) (tCallN 0 ks.length sp gV E0 tNil tk) := by
  refine ⟨fun pins s σ H Q I h => ?_⟩
  refine wpAny_Call_Name_kw (ld_glob I hg hm ?_ hdb)
  refine PySem.W.callWith_KW0 (h₀ := X.base) I.ok.mod.kin hk hall (thn (hkw.run pos pins s σ H _ I h) fun ws s2 ⟨zs, H2, I2, rz, l1, l2, q2⟩ => ⟨I2.kIn, ?_⟩) hpl
  rw [hks]
  exact run_fnN F hr hb hx I2 .nil rz l1 l2 q2
theorem se_callK {f : List PyData → R PyData} (perm : List Nat) (F : Kn X.prog X.w X.K X.mg X.base k x st ps (SpP X.tri n f)) (hbk : ∀ (kV doc pm : Value) (an : Option Addr) (cdv ct : Value) (us ws : List Value), us.length = m → ws.length = ks.length → bindArgs (PySem.W.fnOf x x (defArgs st) (defBody st) (defScope st) .none kV doc pm an cdv ct) ⟨us, ks.zip ws⟩ = pure (ps.zip (pick perm (us ++ ws))))
    (hr : Room k X.A) (ha : PA X (e :: es) (TAs X.tri ms)) (hkw : PK X kws (TAs X.tri mk)) (hg : Gl X x := by rfl) (hall : (backToKw pos (keywordEach kws X.env)).all (·.1.isSome) = true := by rfl) (hks : (backToKw pos (keywordEach kws X.env)).filterMap (·.1) = ks := by rfl)
    (hdb : (x == ("__debug__" : Str)) = false := by rfl) (he : starEach (e :: es) X.env = (false, eval e X.env) :: starEach es X.env := by rfl)
    (hpl : ((backTo pos (starEach (e :: es) X.env)).any (·.1) || (backToKw pos (keywordEach kws X.env)).any (·.1.isNone)) = false := by rfl) :
    PE X (.Call (.Name x p) (e :: es) kws pos) (TM X.tri (mCallK m ks.length perm (fun ds => chk (ds.length = n) (f ds)) ms mk)) := by
  obtain ⟨fa, fd, F, g, Fu, hb⟩ := F.ex
  refine pe_imp (pe_callN F hr hg g Fu.kp (kbn_of perm Fu hbk) pass0 ha hkw hall hks hdb he hpl) callk_to
theorem se_callK0 {f : List PyData → R PyData} (perm : List Nat) (F : Kn X.prog X.w X.K X.mg X.base k x st ps (SpP X.tri n f)) (hbk : ∀ (kV doc pm : Value) (an : Option Addr) (cdv ct : Value) (us ws : List Value), us.length = 0 → ws.length = ks.length → bindArgs (PySem.W.fnOf x x (defArgs st) (defBody st) (defScope st) .none kV doc pm an cdv ct) ⟨us, ks.zip ws⟩ = pure (ps.zip (pick perm (us ++ ws))))
    (hr : Room k X.A) (hkw : PK X kws (TAs X.tri mk)) (hg : Gl X x := by rfl) (hall : (backToKw pos (keywordEach kws X.env)).all (·.1.isSome) = true := by rfl) (hks : (backToKw pos (keywordEach kws X.env)).filterMap (·.1) = ks := by rfl)
    (hdb : (x == ("__debug__" : Str)) = false := by rfl)
    (hpl : ((backTo pos (starEach [] X.env)).any (·.1) || (backToKw pos (keywordEach kws X.env)).any (·.1.isNone)) = false := by rfl) :
    PE X (.Call (.Name x p) [] kws pos) (TM X.tri (mCallK 0 ks.length perm (fun ds => chk (ds.length = n) (f ds)) mNil mk)) := by
  obtain ⟨fa, fd, F, g, Fu, hb⟩ := F.ex
  refine pe_imp (pe_callN0 F hr hg g Fu.kp (kbn_of perm Fu hbk) pass0 hkw hall hks hdb hpl) fun σ H Q q => ?_
  have q := callk_to σ H Q q
  obtain ⟨fm, G, ρ, a, ρ', rp, e, k⟩ := q
  cases e
  exact k [] G H (Ex.refl G) rp .nil
end
end FM
/-! mirrors by plain rewriting -/
namespace FM
open PySem PySem.Spec PyProof.Rows L2 Evl

def R.yes : R PyData → Bool
  | .ok (.bool true) => true
  | _ => false
theorem R.of_yes {x : R PyData} (h : x.yes = true) : x = .ok (.bool true) := by
  cases x with
  | bad => cases h
  | ok d =>
    cases d with
    | bool b =>
      cases b with
      | true => rfl
      | false => cases h
    | _ => cases h
theorem chk_pos {α : Type} {c : Prop} [Decidable c] {x : R α} (h : c) : chk c x = x := if_pos h
@[simp] theorem chk_true {α : Type} {x : R α} : chk True x = x := if_pos trivial
@[simp] theorem chk_false {α : Type} {x : R α} : chk False x = .bad := if_neg id
@[simp] theorem shaped_int (i : Int) : SeqAt.shaped (.int i) = true := rfl
@[simp] theorem shaped_bool (i : Bool) : SeqAt.shaped (.bool i) = true := rfl
@[simp] theorem shaped_none : SeqAt.shaped .none = true := rfl
section
variable (i j : Int) (a b : Bool) (x y : PyData)
@[simp] theorem dAddA_int : dAddA (.int i) (.int j) = .ok (.int (i + j)) := rfl
@[simp] theorem dAddI_int : dAddI (.int i) (.int j) = .ok (.int (i + j)) := rfl
@[simp] theorem dSub_int : dSub (.int i) (.int j) = .ok (.int (i - j)) := rfl
@[simp] theorem dNeg_int : dNeg (.int i) = .ok (.int (-i)) := rfl
@[simp] theorem dMulA_int : dMulA (.int i) (.int j) = chk (okMul i j = true) (.ok (.int (i * j))) := rfl
@[simp] theorem dDiv_int : dDiv (.int i) (.int j) = chk (okDiv j = true) (.ok (.int (i.fdiv j))) := rfl
@[simp] theorem dMod_int : dMod (.int i) (.int j) = chk (j ≠ 0) (.ok (.int (i.fmod j))) := rfl
@[simp] theorem okCmp_int : okCmp (.int i) (.int j) = true := rfl
@[simp] theorem dLt_int : dLt (.int i) (.int j) = .ok (.bool (decide (i < j))) := by unfold dLt; rw [okCmp_int, PySem.W.dataLt_int, chk_pos rfl]
@[simp] theorem dGt_int : dGt (.int i) (.int j) = .ok (.bool (decide (j < i))) := by unfold dGt; rw [okCmp_int, PySem.W.dataLt_int, chk_pos rfl]
@[simp] theorem dLe_int : dLe (.int i) (.int j) = .ok (.bool (decide (i ≤ j))) := by
  unfold dLe
  rw [okCmp_int, PySem.W.dataLt_int, chk_pos rfl]
  by_cases h : i ≤ j
  · rw [decide_eq_true h, decide_eq_false (by omega)]; rfl
  · rw [decide_eq_false h, decide_eq_true (by omega)]; rfl
@[simp] theorem dGe_int : dGe (.int i) (.int j) = .ok (.bool (decide (j ≤ i))) := by
  unfold dGe
  rw [okCmp_int, PySem.W.dataLt_int, chk_pos rfl]
  by_cases h : j ≤ i
  · rw [decide_eq_true h, decide_eq_false (by omega)]; rfl
  · rw [decide_eq_false h, decide_eq_true (by omega)]; rfl
@[simp] theorem dEq_int : dEq (.int i) (.int j) = .ok (.bool (decide (i = j))) := rfl
@[simp] theorem dNe_int : dNe (.int i) (.int j) = .ok (.bool (!decide (i = j))) := rfl
@[simp] theorem gInt_int : gInt [.int i] = .ok (.int i) := rfl
@[simp] theorem gInt_bool : gInt [.bool b] = .ok (.int (if b = true then 1 else 0)) := rfl
@[simp] theorem gAbs_int : gAbs [.int i] = .ok (.int (if i < 0 then -i else i)) := rfl
@[simp] theorem rs_dat (ρ : Ro) : rs (.dat x) ρ = .ok x := rfl
@[simp] theorem fz_dat (ρ : Ro) : fz (.dat x) ρ = .ok (x, ρ) := rfl
@[simp] theorem fzs_nil (ρ : Ro) : fzs [] ρ = .ok ([], ρ) := rfl
@[simp] theorem fzs_cons (h : Hd) (hs : List Hd) (ρ : Ro) : fzs (h :: hs) ρ = (fz h ρ).bind fun p => (fzs hs p.2).bind fun q => .ok (p.1 :: q.1, q.2) := rfl
@[simp] theorem rss_nil (ρ : Ro) : rss [] ρ = .ok [] := rfl
@[simp] theorem rss_cons (h : Hd) (hs : List Hd) (ρ : Ro) : rss (h :: hs) ρ = (rs h ρ).bind fun d => (rss hs ρ).bind fun ds => .ok (d :: ds) := rfl
@[simp] theorem stay_dat (ρ : Ro) : stay (.dat x) ρ = .ok x := rfl
end
theorem rs_slot {k : Nat} {ρ : Ro} {d : PyData} (h : ρ[k]? = some (some (.fz d))) : rs (.slot k) ρ = .ok d := by
  unfold rs
  simp only [h]
  rfl
theorem rs_slotL {k : Nat} {ρ : Ro} {l : LS} {xs : List PyData} (h : ρ[k]? = some (some (.ls l xs))) : rs (.slot k) ρ = .ok (.list xs) := by
  unfold rs
  simp only [h]
  rfl
theorem okMul_l {i j : Int} (h1 : -(2 ^ 64) < i) (h2 : i < 2 ^ 64 - 1) : okMul i j = true := by
  unfold okMul
  rw [lim64_iff.mpr ⟨h1, h2⟩]
  rfl
theorem okMul_r {i j : Int} (h1 : -(2 ^ 64) < j) (h2 : j < 2 ^ 64 - 1) : okMul i j = true := by
  unfold okMul
  rw [lim64_iff.mpr ⟨h1, h2⟩, Bool.or_true]
  rfl
theorem log2_small {n : Nat} (h : n < 2 ^ 64) : n.log2 < 9000 := by
  by_cases h0 : n = 0
  · rw [h0]
    decide
  · have := (Nat.log2_lt h0).mpr h
    omega
theorem okDiv_of {j : Int} (h : 1 ≤ j) (h2 : j < 2 ^ 64) : okDiv j = true := by
  unfold okDiv
  refine decide_eq_true ⟨by omega, log2_small ?_⟩
  omega
theorem fmod_pos {a b : Int} (h : 1 ≤ b) : 0 ≤ a.fmod b ∧ a.fmod b < b := by
  rw [Int.fmod_eq_emod_of_nonneg a (by omega)]
  exact ⟨Int.emod_nonneg a (by omega), Int.emod_lt_of_pos a (by omega)⟩
theorem fdiv_pos {a b : Int} (h : 1 ≤ b) (ha : 0 ≤ a) : 0 ≤ a.fdiv b ∧ a.fdiv b ≤ a := by
  rw [Int.fdiv_eq_ediv_of_nonneg a (by omega)]
  exact ⟨Int.ediv_nonneg ha (by omega), Int.ediv_le_self _ ha⟩
/-- a loop that keeps a bond -/
theorem loop_inv {g : PyData → Ro → R Ro} {b : MS} (I : Ro → Prop) : ∀ (ds : List PyData), (∀ d ∈ ds, ∀ ρ, I ρ → ∃ f ρ2, (g d ρ).bind (fun ρ1 => b ρ1) = .ok (f, ρ2) ∧ (f = .nx ∨ f = .ct) ∧ I ρ2) → ∀ ρ, I ρ → ∃ ρ', loopD g b ds ρ = .ok (.nx, ρ') ∧ I ρ'
  | [], _, ρ, h => ⟨ρ, rfl, h⟩
  | d :: ds, k, ρ, h => by
    obtain ⟨f, ρ2, e1, e3, e4⟩ := k d List.mem_cons_self ρ h
    obtain ⟨ρ1, e1, e2⟩ := R.of_bind e1
    obtain ⟨ρ', e5, e6⟩ := loop_inv I ds (fun d hd => k d (List.mem_cons_of_mem _ hd)) ρ2 e4
    refine ⟨ρ', ?_, e6⟩
    unfold loopD
    rw [e1, R.bind_ok, e2, R.bind_ok]
    rcases e3 with rfl | rfl
    · exact e5
    · exact e5
/-- the same by places -/
theorem loop_invN {g : PyData → Ro → R Ro} {b : MS} (I : Nat → Ro → Prop) : ∀ (ds : List PyData) (i : Nat), (∀ j d, ds[j]? = some d → ∀ ρ, I (i + j) ρ → ∃ f ρ2, (g d ρ).bind (fun ρ1 => b ρ1) = .ok (f, ρ2) ∧ (f = .nx ∨ f = .ct) ∧ I (i + j + 1) ρ2) → ∀ ρ, I i ρ → ∃ ρ', loopD g b ds ρ = .ok (.nx, ρ') ∧ I (i + ds.length) ρ'
  | [], i, _, ρ, h => ⟨ρ, rfl, h⟩
  | d :: ds, i, k, ρ, h => by
    obtain ⟨f, ρ2, e1, e3, e4⟩ := k 0 d rfl ρ h
    obtain ⟨ρ1, e1, e2⟩ := R.of_bind e1
    obtain ⟨ρ', e5, e6⟩ := loop_invN I ds (i + 1) (fun j d hd ρ hI => by
      have := k (j + 1) d (by simpa using hd) ρ (by rw [show i + (j + 1) = i + 1 + j by omega]; exact hI)
      rw [show i + (j + 1) + 1 = i + 1 + j + 1 by omega] at this
      exact this) ρ2 e4
    refine ⟨ρ', ?_, by rw [List.length_cons, show i + (ds.length + 1) = i + 1 + ds.length by omega]; exact e6⟩
    unfold loopD
    rw [e1, R.bind_ok, e2, R.bind_ok]
    rcases e3 with rfl | rfl
    · exact e5
    · exact e5
/-- a comprehension's loop that keeps a bond, nothing left out -/
theorem comp_inv {g : PyData → Ro → R Ro} {e : M Hd} {vs : List Nat} (I : Ro → Prop) (P : PyData → PyData → Prop) : ∀ (ds : List PyData), (∀ d ∈ ds, ∀ ρ, I ρ → ∃ z ρ4, (g d ρ).bind (fun ρ1 => (e ρ1).bind fun q => fz q.1 q.2) = .ok (z, ρ4) ∧ P d z ∧ I (wipeR ρ4 vs)) →
    ∀ ρ, I ρ → ∃ zs ρ', loopC g mYes e vs ds ρ = .ok (zs, ρ') ∧ I ρ' ∧ zs.length = ds.length ∧ ∀ (i : Nat) (d z : PyData), ds[i]? = some d → zs[i]? = some z → P d z
  | [], _, ρ, h => ⟨[], ρ, rfl, h, rfl, fun i d z h => by simp at h⟩
  | d :: ds, k, ρ, h => by
    obtain ⟨z, ρ4, e1, e5, e6⟩ := k d List.mem_cons_self ρ h
    obtain ⟨ρ1, e1, e2⟩ := R.of_bind e1
    obtain ⟨q, e3, e4⟩ := R.of_bind e2
    obtain ⟨zs, ρ', e7, e8, e9, e10⟩ := comp_inv I P ds (fun d hd => k d (List.mem_cons_of_mem _ hd)) _ e6
    refine ⟨z :: zs, ρ', ?_, e8, by rw [List.length_cons, List.length_cons, e9], fun i d' z' h1 h2 => ?_⟩
    · unfold loopC
      rw [e1, R.bind_ok, show mYes ρ1 = .ok (true, ρ1) from rfl, R.bind_ok, if_pos rfl, e3, R.bind_ok, e4, R.bind_ok, e7, R.bind_ok]
    · cases i with
      | zero =>
        simp at h1 h2
        subst h1 h2
        exact e5
      | succ i => exact e10 i d' z' (by simpa using h1) (by simpa using h2)
/-- no object of its own -/
def Pl (x : Option Sv) : Prop := x = none ∨ ∃ d, x = some (.fz d)
theorem Pl.non : Pl none := .inl rfl
theorem Pl.fz {d : PyData} : Pl (some (.fz d)) := .inr ⟨d, rfl⟩
theorem upFrom_mem {lo : Int} {n : Nat} {d : PyData} (h : d ∈ upFrom lo n) : ∃ i : Nat, i < n ∧ d = .int (lo + i) := by
  unfold upFrom at h
  obtain ⟨i, hi, rfl⟩ := List.mem_map.mp h
  exact ⟨i, List.mem_range.mp hi, rfl⟩
theorem numbered_mem {xs : List PyData} {d : PyData} (h : d ∈ numbered xs) : ∃ (i : Nat) (x : PyData), xs[i]? = some x ∧ d = .tuple [.int (i : Int), x] := by
  obtain ⟨i, hi⟩ := List.mem_iff_getElem?.mp h
  have hlt : i < (numbered xs).length := (List.getElem?_eq_some_iff.mp hi).1
  rw [numbered_len] at hlt
  have := numbered_get (List.getElem?_eq_getElem hlt)
  rw [hi] at this
  exact ⟨i, _, List.getElem?_eq_getElem hlt, Option.some.inj this⟩
theorem allB {zs : List PyData} (h : ∀ z ∈ zs, z = .bool true) : gAll [.list zs] = .ok (.bool true) := by
  have hb : ∀ zs : List PyData, (∀ z ∈ zs, z = .bool true) → boolsOf zs = some (zs.map fun _ => true) := by
    intro zs
    induction zs with
    | nil => intro _; rfl
    | cons z zs ih =>
      intro h
      have := h z List.mem_cons_self
      subst this
      show (boolsOf zs).map (true :: ·) = _
      rw [ih fun z hz => h z (List.mem_cons_of_mem _ hz)]
      rfl
  unfold gAll gBools
  simp only [hb zs h]
  have : ∀ zs : List PyData, ((zs.map fun _ => true).all fun b => b) = true := by
    intro zs
    induction zs with
    | nil => rfl
    | cons z zs ih => rw [List.map_cons, List.all_cons, ih]; rfl
  rw [this]
/-- a comprehension, item by item -/
theorem comp_map {g : PyData → Ro → R Ro} {e : M Hd} {vs : List Nat} (I : Ro → Prop) (f : PyData → PyData) : ∀ (ds : List PyData), (∀ d ∈ ds, ∀ ρ, I ρ → ∃ ρ4, (g d ρ).bind (fun ρ1 => (e ρ1).bind fun q => fz q.1 q.2) = .ok (f d, ρ4) ∧ I (wipeR ρ4 vs)) →
    ∀ ρ, I ρ → ∃ ρ', loopC g mYes e vs ds ρ = .ok (ds.map f, ρ') ∧ I ρ'
  | [], _, ρ, h => ⟨ρ, rfl, h⟩
  | d :: ds, k, ρ, h => by
    obtain ⟨ρ4, e1, e6⟩ := k d List.mem_cons_self ρ h
    obtain ⟨ρ1, e1, e2⟩ := R.of_bind e1
    obtain ⟨q, e3, e4⟩ := R.of_bind e2
    obtain ⟨ρ', e7, e8⟩ := comp_map I f ds (fun d hd => k d (List.mem_cons_of_mem _ hd)) _ e6
    refine ⟨ρ', ?_, e8⟩
    unfold loopC
    rw [e1, R.bind_ok, show mYes ρ1 = .ok (true, ρ1) from rfl, R.bind_ok, if_pos rfl, e3, R.bind_ok, e4, R.bind_ok, e7, R.bind_ok, List.map_cons]
theorem gAll_map (f : PyData → Bool) (xs : List PyData) : gAll [.list (xs.map fun d => .bool (f d))] = .ok (.bool (xs.all f)) := by
  have hb : ∀ zs : List PyData, boolsOf (zs.map fun d => .bool (f d)) = some (zs.map f) := by
    intro zs
    induction zs with
    | nil => rfl
    | cons z zs ih =>
      show (boolsOf (zs.map fun d => .bool (f d))).map (f z :: ·) = _
      rw [ih]
      rfl
  unfold gAll gBools
  simp only [hb xs, List.all_map]
  rfl
/-- a loop that ends with an answer at the first item that is not so -/
theorem loop_find {g : PyData → Ro → R Ro} {b : MS} (I : Ro → Prop) (P : PyData → Bool) (r : PyData) : ∀ (ds : List PyData), (∀ d ∈ ds, ∀ ρ, I ρ → ∃ ρ2, (g d ρ).bind (fun ρ1 => b ρ1) = .ok (if P d = true then .nx else .rt r, ρ2) ∧ I ρ2) →
    ∀ ρ, I ρ → ∃ ρ', loopD g b ds ρ = .ok (if ds.all P = true then .nx else .rt r, ρ') ∧ I ρ'
  | [], _, ρ, h => ⟨ρ, rfl, h⟩
  | d :: ds, k, ρ, h => by
    obtain ⟨ρ2, e1, e4⟩ := k d List.mem_cons_self ρ h
    obtain ⟨ρ1, e1, e2⟩ := R.of_bind e1
    cases hd : P d with
    | true =>
      rw [hd, if_pos rfl] at e2
      obtain ⟨ρ', e5, e6⟩ := loop_find I P r ds (fun d hd => k d (List.mem_cons_of_mem _ hd)) ρ2 e4
      refine ⟨ρ', ?_, e6⟩
      unfold loopD
      rw [e1, R.bind_ok, e2, R.bind_ok, List.all_cons, hd, Bool.true_and]
      exact e5
    | false =>
      rw [hd, if_neg Bool.false_ne_true] at e2
      refine ⟨ρ2, ?_, e4⟩
      unfold loopD
      rw [e1, R.bind_ok, e2, R.bind_ok, List.all_cons, hd, Bool.false_and, if_neg Bool.false_ne_true]
/-- a loop that gathers -/
theorem loop_fold {α : Type} {g : PyData → Ro → R Ro} {b : MS} (I : α → Ro → Prop) (F : α → PyData → α) : ∀ (ds : List PyData), (∀ d ∈ ds, ∀ a ρ, I a ρ → ∃ ρ2, (g d ρ).bind (fun ρ1 => b ρ1) = .ok (.nx, ρ2) ∧ I (F a d) ρ2) →
    ∀ a ρ, I a ρ → ∃ ρ', loopD g b ds ρ = .ok (.nx, ρ') ∧ I (ds.foldl F a) ρ'
  | [], _, a, ρ, h => ⟨ρ, rfl, h⟩
  | d :: ds, k, a, ρ, h => by
    obtain ⟨ρ2, e1, e4⟩ := k d List.mem_cons_self a ρ h
    obtain ⟨ρ1, e1, e2⟩ := R.of_bind e1
    obtain ⟨ρ', e5, e6⟩ := loop_fold I F ds (fun d hd => k d (List.mem_cons_of_mem _ hd)) (F a d) ρ2 e4
    refine ⟨ρ', ?_, e6⟩
    unfold loopD
    rw [e1, R.bind_ok, e2, R.bind_ok]
    exact e5
end FM
/-! the end: a law's promise, its facts -/
namespace FM
open PySem PySem.Spec PyProof.Rows L2 Evl

section
variable {P : Program} {w : World} {K : PySem.W.Frag} {mg : Str → Option Value} {base h : Heap} {k : Nat} {x : Str} {st : Stmt} {f : Addr} {fd : FuncData} {ps : List Str} {sp : Sp}
theorem fun_of (F : FunD K x x (defArgs st) (defBody st) (defScope st) [] [] f fd) : Fun K x x st f fd := by
  obtain ⟨oc, od, dV, kV, doc, pm, an, cdv, ct, osl, e, lk, hc, hd, _⟩ := F.ex
  rcases hd with ⟨_, hd⟩ | ⟨hd, _⟩
  · subst hd
    exact ⟨⟨oc, od, kV, doc, pm, an, cdv, ct, osl, e, lk, hc⟩, F.kp⟩
  · exact absurd rfl hd
theorem df_of (h : ∃ fd, FunD K x x (defArgs st) (defBody st) (defScope st) [] [] f fd) (g : mg x = some (.ref f)) : Df K mg x st := by
  obtain ⟨fd, F⟩ := h
  exact ⟨f, fd, fun_of F, g⟩
theorem kn_end (F : Fun K x x st f fd) (g : mg x = some (.ref f)) (h : Kn P w K mg base k x st ps sp) : FnOk P w K mg base CX0 k f fd ps sp := by
  obtain ⟨f', fd', F', g', Fu, _⟩ := h.ex
  rw [g] at g'
  cases g'
  obtain ⟨oc, od, kV, doc, pm, an, cdv, ct, osl, _, lk, _⟩ := F.ex
  obtain ⟨oc', od', kV', doc', pm', an', cdv', ct', osl', _, lk', _⟩ := Fu.ex
  rw [lk] at lk'
  cases lk'
  exact F'
theorem dpa_ints_of {H : Hp} : ∀ ns : List Int, DpAll K H (ns.map V.int) (ns.map PyData.int)
  | [] => .nil
  | n :: ns => .cons (.int n) (dpa_ints_of ns)
theorem sp_end {T : Tri} {f : List PyData → R PyData} {H : Hp} {a : Addr} {ns : List Int} (hS : SqL T.K H a (ns.map V.int)) (e : f [.list (ns.map .int)] = .ok (.bool true)) : SpP T 1 f [.ref a] H (fun v _ => v = .bl true) fun _ _ _ => False :=
  ⟨fun _ => none, H, _, _, Ex.refl H, (fun a o h => nomatch h), (fun a h => absurd rfl h), .cons (.lst hS (dpa_ints_of ns)) .nil, rfl, e, fun v G' H' _ _ _ _ hd => by
    cases hd
    rfl⟩
end
end FM
set_option maxHeartbeats 4000000
namespace FM
open PySem PySem.Spec PyProof.Rows L2 Evl
def topS (i : Nat) : Stmt := PySem.Challenge.pw_flagmeans_k34_proportion_by_numbers.main.body.getD i (.Pass ⟨0, 0, 0, 0⟩)
theorem bt_abs : bootBuiltins "abs" = some (.builtin "abs") := by decide +kernel
theorem bt_all : bootBuiltins "all" = some (.builtin "all") := by decide +kernel
theorem bt_bool : bootBuiltins "bool" = some (.type "bool") := by decide +kernel
theorem bt_dict : bootBuiltins "dict" = some (.type "dict") := by decide +kernel
theorem bt_int : bootBuiltins "int" = some (.type "int") := by decide +kernel
theorem bt_len : bootBuiltins "len" = some (.builtin "len") := by decide +kernel
theorem bt_list : bootBuiltins "list" = some (.type "list") := by decide +kernel
theorem bt_max : bootBuiltins "max" = some (.builtin "max") := by decide +kernel
theorem bt_min : bootBuiltins "min" = some (.builtin "min") := by decide +kernel
theorem bt_sorted : bootBuiltins "sorted" = some (.builtin "sorted") := by decide +kernel
theorem bt_str : bootBuiltins "str" = some (.type "str") := by decide +kernel
theorem bt_tuple : bootBuiltins "tuple" = some (.type "tuple") := by decide +kernel
/-- what the top has left -/
structure Txt (K : PySem.W.Frag) (mg : Str → Option Value) : Prop where
  d_greatest_divisor : Df K mg "greatest_divisor" (topS 3)
  d_fraction : Df K mg "fraction" (topS 4)
  d_check_flags : Df K mg "check_flags" (topS 6)
  d_pair_table : Df K mg "pair_table" (topS 7)
  d_table_of : Df K mg "table_of" (topS 9)
  d_share_by : Df K mg "share_by" (topS 10)
  d_share : Df K mg "share" (topS 11)
  d_both_wanted : Df K mg "both_wanted" (topS 12)
  d_least_share : Df K mg "least_share" (topS 13)
  d_most_share : Df K mg "most_share" (topS 14)
  d__law_box : Df K mg "_law_box" (topS 16)
  d__law_take : Df K mg "_law_take" (topS 17)
  d__law_cells : Df K mg "_law_cells" (topS 18)
  d__law_same : Df K mg "_law_same" (topS 19)
  d__law_every : Df K mg "_law_every" (topS 20)
  d__law_less_than : Df K mg "_law_less_than" (topS 21)
  d__law_case_right : Df K mg "_law_case_right" (topS 22)
  d__law_by_hand_right : Df K mg "_law_by_hand_right" (topS 23)
  d__law_right : Df K mg "_law_right" (topS 24)
  d_law : Df K mg "law" (topS 25)
  b_abs : mg "abs" = none
  b_all : mg "all" = none
  b_bool : mg "bool" = none
  b_dict : mg "dict" = none
  b_enumerate : mg "enumerate" = none
  b_int : mg "int" = none
  b_isinstance : mg "isinstance" = none
  b_len : mg "len" = none
  b_list : mg "list" = none
  b_max : mg "max" = none
  b_min : mg "min" = none
  b_range : mg "range" = none
  b_sorted : mg "sorted" = none
  b_str : mg "str" = none
  b_tuple : mg "tuple" = none
  b_zip : mg "zip" = none
section
variable {P : Program} {w : World} {K : PySem.W.Frag} {mg : Str → Option Value} {base : Heap}
abbrev N_greatest_divisor : List Str := ["one", "other"]
theorem sc_greatest_divisor : FnScope N_greatest_divisor ["one", "other"] (defScope (topS 3)) := ⟨rfl, rfl, rfl, by decide +kernel, rfl, by decide +kernel, by decide +kernel⟩
def p1_greatest_divisor : M Bool := (mTst (mBin dGt (mVar 1) (mC (.int 0))))
def p2_greatest_divisor : MS := (mPar [0, 1] (mCons (mVar 1) (mCons (mBin dMod (mVar 0) (mVar 1)) mNil)))
def mb_greatest_divisor : MS := (mSeq (mPar [0, 1] (mCons (mB gAbs (mCons (mVar 0) mNil)) (mCons (mB gAbs (mCons (mVar 1) mNil)) mNil)))
    (mSeq (mWhile p1_greatest_divisor
    p2_greatest_divisor 100000)
    (mRet (mVar 0))))
def m_greatest_divisor : List PyData → R PyData := bodyOf 2 mb_greatest_divisor
theorem w_greatest_divisor (T : Txt K mg) : Kn P w K mg base 1 "greatest_divisor" (topS 3) ["one", "other"] (SpP (tri P w K) 2 m_greatest_divisor) := by
  refine kn_pure (k := 0) T.d_greatest_divisor sc_greatest_divisor rfl (by decide) (m := mb_greatest_divisor) (fun _ _ _ _ _ _ us hl => match us, hl with | [_, _], _ => rfl) (fun f cdv A outer s H E hr => ?_)
  have c := cxo_of (P := P) (w := w) (K := K) (mg := mg) (base := base) (N := N_greatest_divisor) (outer := outer) (H := H) (E := E) hr
  exact (ss_cons (ss_par2 c sc_greatest_divisor.nd (sa_cons (se_b cd_abs T.b_abs bt_abs (sa_cons (se_var 0) sa_nil)) (sa_cons (se_b cd_abs T.b_abs bt_abs (sa_cons (se_var 1) sa_nil)) sa_nil)))
      (ss_cons (ss_while 100000 PassesOwn.never (st_cmp (od_gt c) (se_var 1) se_int)
      (ss_one (ss_par2 c sc_greatest_divisor.nd (sa_cons (se_var 1) (sa_cons (se_op od_mod (se_var 0) (se_var 1)) sa_nil)))))
      (ss_one (ss_ret (se_var 0)))))
abbrev N_fraction : List Str := ["top", "bottom", "part"]
theorem sc_fraction : FnScope N_fraction ["top", "bottom"] (defScope (topS 4)) := ⟨rfl, rfl, rfl, by decide +kernel, rfl, by decide +kernel, by decide +kernel⟩
def mb_fraction : MS := (mSeq (mSet 2 (mCall (fun ds => chk (ds.length = 2) (m_greatest_divisor ds)) (mCons (mVar 0) (mCons (mVar 1) mNil))))
    (mSeq (mSet 2 (mIf (mTst (mBin dGt (mVar 1) (mC (.int 0)))) (mVar 2) (mUn dNeg (mVar 2))))
    (mRet (mTup (mCons (mBin dDiv (mVar 0) (mVar 2)) (mCons (mBin dDiv (mVar 1) (mVar 2)) mNil))))))
def m_fraction : List PyData → R PyData := bodyOf 3 mb_fraction
theorem w_fraction (T : Txt K mg) : Kn P w K mg base 2 "fraction" (topS 4) ["top", "bottom"] (SpP (tri P w K) 2 m_fraction) := by
  refine kn_pure (k := 1) T.d_fraction sc_fraction rfl (by decide) (m := mb_fraction) (fun _ _ _ _ _ _ us hl => match us, hl with | [_, _], _ => rfl) (fun f cdv A outer s H E hr => ?_)
  have c := cxo_of (P := P) (w := w) (K := K) (mg := mg) (base := base) (N := N_fraction) (outer := outer) (H := H) (E := E) hr
  exact (ss_cons (ss_set (i := 2) sc_fraction.nd (se_call (w_greatest_divisor T) (hr.mono (by decide)) (sa_cons (se_var 0) (sa_cons (se_var 1) sa_nil))))
      (ss_cons (ss_set (i := 2) sc_fraction.nd (se_if (st_cmp (od_gt c) (se_var 1) se_int) (se_var 2) (se_un ud_neg (se_var 2))))
      (ss_one (ss_ret (se_tup (sa_cons (se_op od_div (se_var 0) (se_var 2)) (sa_cons (se_op od_div (se_var 1) (se_var 2)) sa_nil)))))))
abbrev N_check_flags : List Str := ["flags", "names", "name"]
theorem sc_check_flags : FnScope N_check_flags ["flags", "names"] (defScope (topS 6)) := ⟨rfl, rfl, rfl, by decide +kernel, rfl, by decide +kernel, by decide +kernel⟩
def p1_check_flags : MS := (mIfS (mTst (mBin dNotIn (mVar 2) (mVar 0)))
    mBad
    mNext)
def mb_check_flags : MS := (mFor (mIt (mVar 1)) (gN 2)
    p1_check_flags)
def m_check_flags : List PyData → R PyData := bodyOf 3 mb_check_flags
theorem w_check_flags (T : Txt K mg) : Kn P w K mg base 1 "check_flags" (topS 6) ["flags", "names"] (SpP (tri P w K) 2 m_check_flags) := by
  refine kn_pure (k := 0) T.d_check_flags sc_check_flags rfl (by decide) (m := mb_check_flags) (fun _ _ _ _ _ _ us hl => match us, hl with | [_, _], _ => rfl) (fun f cdv A outer s H E hr => ?_)
  have c := cxo_of (P := P) (w := w) (K := K) (mg := mg) (base := base) (N := N_check_flags) (outer := outer) (H := H) (E := E) hr
  exact (ss_one (ss_for c PassesOwn.never (si_it (se_var 1)) (sg_name sc_check_flags.nd)
      (ss_one (ss_if (st_cmp (od_notIn c) (se_var 2) (se_var 0))
      (ss_one ss_never)
      ss_nil))))
abbrev N_pair_table : List Str := ["counts", "one", "other", "found", "sort", "number"]
theorem sc_pair_table : FnScope N_pair_table ["counts", "one", "other"] (defScope (topS 7)) := ⟨rfl, rfl, rfl, by decide +kernel, rfl, by decide +kernel, by decide +kernel⟩
def p1_pair_table : MS := (mDAug 3 dAddI (mTup (mCons (mBin dIn (mVar 1) (mVar 4)) (mCons (mBin dIn (mVar 2) (mVar 4)) mNil))) (mVar 5))
def mb_pair_table : MS := (mSeq (mDrop (mCall (fun ds => chk (ds.length = 2) (m_check_flags ds)) (mCons (mBin dIx (mVar 0) (mC (.int 0))) (mCons (mTup (mCons (mVar 1) (mCons (mVar 2) mNil))) mNil))))
    (mSeq (mSetD 3 (mDisp [((mTup (mCons (mC (.bool true)) (mCons (mC (.bool true)) mNil))), (mC (.int 0))), ((mTup (mCons (mC (.bool true)) (mCons (mC (.bool false)) mNil))), (mC (.int 0))), ((mTup (mCons (mC (.bool false)) (mCons (mC (.bool true)) mNil))), (mC (.int 0))), ((mTup (mCons (mC (.bool false)) (mCons (mC (.bool false)) mNil))), (mC (.int 0)))]))
    (mSeq (mFor (mIt (mBin dIx (mVar 0) (mC (.int 1)))) (gT 2 (gsC (gN 4) (gsC (gN 5) gsN)))
    p1_pair_table)
    (mRet (mTupVals 3)))))
def m_pair_table : List PyData → R PyData := bodyOf 6 mb_pair_table
theorem w_pair_table (T : Txt K mg) : Kn P w K mg base 2 "pair_table" (topS 7) ["counts", "one", "other"] (SpP (tri P w K) 3 m_pair_table) := by
  refine kn_pure (k := 1) T.d_pair_table sc_pair_table rfl (by decide) (m := mb_pair_table) (fun _ _ _ _ _ _ us hl => match us, hl with | [_, _, _], _ => rfl) (fun f cdv A outer s H E hr => ?_)
  have c := cxo_of (P := P) (w := w) (K := K) (mg := mg) (base := base) (N := N_pair_table) (outer := outer) (H := H) (E := E) hr
  exact (ss_cons (ss_drop (se_call (w_check_flags T) (hr.mono (by decide)) (sa_cons (se_ix (se_var 0) se_int) (sa_cons (se_tup (sa_cons (se_var 1) (sa_cons (se_var 2) sa_nil))) sa_nil))))
      (ss_cons (ss_setD (i := 3) sc_pair_table.nd (sd_disp c (ms := [((mTup (mCons (mC (.bool true)) (mCons (mC (.bool true)) mNil))), (mC (.int 0))), ((mTup (mCons (mC (.bool true)) (mCons (mC (.bool false)) mNil))), (mC (.int 0))), ((mTup (mCons (mC (.bool false)) (mCons (mC (.bool true)) mNil))), (mC (.int 0))), ((mTup (mCons (mC (.bool false)) (mCons (mC (.bool false)) mNil))), (mC (.int 0)))]) (pps_cons (se_tup (sa_cons se_bl (sa_cons se_bl sa_nil))) se_int (pps_cons (se_tup (sa_cons se_bl (sa_cons se_bl sa_nil))) se_int (pps_cons (se_tup (sa_cons se_bl (sa_cons se_bl sa_nil))) se_int (pps_cons (se_tup (sa_cons se_bl (sa_cons se_bl sa_nil))) se_int pps_nil))))))
      (ss_cons (ss_for c PassesOwn.never (si_it (se_ix (se_var 0) se_int)) (sg_tup c (sgs_cons (sg_name sc_pair_table.nd) (sgs_cons (sg_name sc_pair_table.nd) sgs_nil)))
      (ss_one (ss_daug c 3 ip_addD (se_tup (sa_cons (se_cmp (od_in c) (se_var 1) (se_var 4)) (sa_cons (se_cmp (od_in c) (se_var 2) (se_var 4)) sa_nil))) (se_var 5))))
      (ss_one (ss_ret (se_tupVals c 3 T.b_tuple bt_tuple))))))
abbrev N_table_of : List Str := ["counts", "one", "other", "both", "first", "second", "neither"]
theorem sc_table_of : FnScope N_table_of ["counts", "one", "other"] (defScope (topS 9)) := ⟨rfl, rfl, rfl, by decide +kernel, rfl, by decide +kernel, by decide +kernel⟩
def mb_table_of : MS := (mSeq (mAsg (gT 4 (gsC (gN 3) (gsC (gN 4) (gsC (gN 5) (gsC (gN 6) gsN))))) (mCall (fun ds => chk (ds.length = 3) (m_pair_table ds)) (mCons (mVar 0) (mCons (mVar 1) (mCons (mVar 2) mNil)))))
    (mRet (mTup (mCons (mBin dAddA (mBin dAddA (mBin dAddA (mVar 3) (mVar 4)) (mVar 5)) (mVar 6)) (mCons (mBin dAddA (mVar 3) (mVar 4)) (mCons (mBin dAddA (mVar 3) (mVar 5)) (mCons (mVar 3) mNil)))))))
def m_table_of : List PyData → R PyData := bodyOf 7 mb_table_of
theorem w_table_of (T : Txt K mg) : Kn P w K mg base 3 "table_of" (topS 9) ["counts", "one", "other"] (SpP (tri P w K) 3 m_table_of) := by
  refine kn_pure (k := 2) T.d_table_of sc_table_of rfl (by decide) (m := mb_table_of) (fun _ _ _ _ _ _ us hl => match us, hl with | [_, _, _], _ => rfl) (fun f cdv A outer s H E hr => ?_)
  have c := cxo_of (P := P) (w := w) (K := K) (mg := mg) (base := base) (N := N_table_of) (outer := outer) (H := H) (E := E) hr
  exact (ss_cons (ss_asg (se_call (w_pair_table T) (hr.mono (by decide)) (sa_cons (se_var 0) (sa_cons (se_var 1) (sa_cons (se_var 2) sa_nil)))) (sg_tup c (sgs_cons (sg_name sc_table_of.nd) (sgs_cons (sg_name sc_table_of.nd) (sgs_cons (sg_name sc_table_of.nd) (sgs_cons (sg_name sc_table_of.nd) sgs_nil))))))
      (ss_one (ss_ret (se_tup (sa_cons (se_op od_addA (se_op od_addA (se_op od_addA (se_var 3) (se_var 4)) (se_var 5)) (se_var 6)) (sa_cons (se_op od_addA (se_var 3) (se_var 4)) (sa_cons (se_op od_addA (se_var 3) (se_var 5)) (sa_cons (se_var 3) sa_nil))))))))
abbrev N_share_by : List Str := ["many", "one", "other", "both", "sides"]
theorem sc_share_by : FnScope N_share_by ["many", "one", "other", "both"] (defScope (topS 10)) := ⟨rfl, rfl, rfl, by decide +kernel, rfl, by decide +kernel, by decide +kernel⟩
def mb_share_by : MS := (mSeq (mSet 4 (mBin dMulA (mVar 2) (mBin dSub (mVar 0) (mVar 2))))
    (mRet (mIf (mTst (mBin dGt (mVar 4) (mC (.int 0)))) (mCall (fun ds => chk (ds.length = 2) (m_fraction ds)) (mCons (mBin dSub (mBin dMulA (mVar 3) (mVar 0)) (mBin dMulA (mVar 1) (mVar 2))) (mCons (mVar 4) mNil))) (mTup (mCons (mC (.int 0)) (mCons (mC (.int 1)) mNil))))))
def m_share_by : List PyData → R PyData := bodyOf 5 mb_share_by
theorem w_share_by (T : Txt K mg) : Kn P w K mg base 3 "share_by" (topS 10) ["many", "one", "other", "both"] (SpP (tri P w K) 4 m_share_by) := by
  refine kn_pure (k := 2) T.d_share_by sc_share_by rfl (by decide) (m := mb_share_by) (fun _ _ _ _ _ _ us hl => match us, hl with | [_, _, _, _], _ => rfl) (fun f cdv A outer s H E hr => ?_)
  have c := cxo_of (P := P) (w := w) (K := K) (mg := mg) (base := base) (N := N_share_by) (outer := outer) (H := H) (E := E) hr
  exact (ss_cons (ss_set (i := 4) sc_share_by.nd (se_op od_mulA (se_var 2) (se_op od_sub (se_var 0) (se_var 2))))
      (ss_one (ss_ret (se_if (st_cmp (od_gt c) (se_var 4) se_int) (se_call (w_fraction T) (hr.mono (by decide)) (sa_cons (se_op od_sub (se_op od_mulA (se_var 3) (se_var 0)) (se_op od_mulA (se_var 1) (se_var 2))) (sa_cons (se_var 4) sa_nil))) (se_tup (sa_cons se_int (sa_cons se_int sa_nil)))))))
abbrev N_share : List Str := ["counts", "one", "other", "many", "first", "second", "both"]
theorem sc_share : FnScope N_share ["counts", "one", "other"] (defScope (topS 11)) := ⟨rfl, rfl, rfl, by decide +kernel, rfl, by decide +kernel, by decide +kernel⟩
def mb_share : MS := (mSeq (mAsg (gT 4 (gsC (gN 3) (gsC (gN 4) (gsC (gN 5) (gsC (gN 6) gsN))))) (mCall (fun ds => chk (ds.length = 3) (m_table_of ds)) (mCons (mVar 0) (mCons (mVar 1) (mCons (mVar 2) mNil)))))
    (mRet (mCall (fun ds => chk (ds.length = 4) (m_share_by ds)) (mCons (mVar 3) (mCons (mVar 4) (mCons (mVar 5) (mCons (mVar 6) mNil)))))))
def m_share : List PyData → R PyData := bodyOf 7 mb_share
theorem w_share (T : Txt K mg) : Kn P w K mg base 4 "share" (topS 11) ["counts", "one", "other"] (SpP (tri P w K) 3 m_share) := by
  refine kn_pure (k := 3) T.d_share sc_share rfl (by decide) (m := mb_share) (fun _ _ _ _ _ _ us hl => match us, hl with | [_, _, _], _ => rfl) (fun f cdv A outer s H E hr => ?_)
  have c := cxo_of (P := P) (w := w) (K := K) (mg := mg) (base := base) (N := N_share) (outer := outer) (H := H) (E := E) hr
  exact (ss_cons (ss_asg (se_call (w_table_of T) (hr.mono (by decide)) (sa_cons (se_var 0) (sa_cons (se_var 1) (sa_cons (se_var 2) sa_nil)))) (sg_tup c (sgs_cons (sg_name sc_share.nd) (sgs_cons (sg_name sc_share.nd) (sgs_cons (sg_name sc_share.nd) (sgs_cons (sg_name sc_share.nd) sgs_nil))))))
      (ss_one (ss_ret (se_call (w_share_by T) (hr.mono (by decide)) (sa_cons (se_var 3) (sa_cons (se_var 4) (sa_cons (se_var 5) (sa_cons (se_var 6) sa_nil))))))))
abbrev N_both_wanted : List Str := ["many", "one", "other"]
theorem sc_both_wanted : FnScope N_both_wanted ["many", "one", "other"] (defScope (topS 12)) := ⟨rfl, rfl, rfl, by decide +kernel, rfl, by decide +kernel, by decide +kernel⟩
def mb_both_wanted : MS := (mRet (mIf (mTst (mBin dEq (mBin dMod (mBin dMulA (mVar 1) (mVar 2)) (mVar 0)) (mC (.int 0)))) (mBin dDiv (mBin dMulA (mVar 1) (mVar 2)) (mVar 0)) (mC (.none))))
def m_both_wanted : List PyData → R PyData := bodyOf 3 mb_both_wanted
theorem w_both_wanted (T : Txt K mg) : Kn P w K mg base 1 "both_wanted" (topS 12) ["many", "one", "other"] (SpP (tri P w K) 3 m_both_wanted) := by
  refine kn_pure (k := 0) T.d_both_wanted sc_both_wanted rfl (by decide) (m := mb_both_wanted) (fun _ _ _ _ _ _ us hl => match us, hl with | [_, _, _], _ => rfl) (fun f cdv A outer s H E hr => ?_)
  have c := cxo_of (P := P) (w := w) (K := K) (mg := mg) (base := base) (N := N_both_wanted) (outer := outer) (H := H) (E := E) hr
  exact (ss_one (ss_ret (se_if (st_cmp (od_eq c) (se_op od_mod (se_op od_mulA (se_var 1) (se_var 2)) (se_var 0)) se_int) (se_op od_div (se_op od_mulA (se_var 1) (se_var 2)) (se_var 0)) se_non)))
abbrev N_least_share : List Str := ["many", "one", "other"]
theorem sc_least_share : FnScope N_least_share ["many", "one", "other"] (defScope (topS 13)) := ⟨rfl, rfl, rfl, by decide +kernel, rfl, by decide +kernel, by decide +kernel⟩
def mb_least_share : MS := (mRet (mCall (fun ds => chk (ds.length = 4) (m_share_by ds)) (mCons (mVar 0) (mCons (mVar 1) (mCons (mVar 2) (mCons (mB gMax (mCons (mC (.int 0)) (mCons (mBin dSub (mBin dAddA (mVar 1) (mVar 2)) (mVar 0)) mNil))) mNil))))))
def m_least_share : List PyData → R PyData := bodyOf 3 mb_least_share
theorem w_least_share (T : Txt K mg) : Kn P w K mg base 4 "least_share" (topS 13) ["many", "one", "other"] (SpP (tri P w K) 3 m_least_share) := by
  refine kn_pure (k := 3) T.d_least_share sc_least_share rfl (by decide) (m := mb_least_share) (fun _ _ _ _ _ _ us hl => match us, hl with | [_, _, _], _ => rfl) (fun f cdv A outer s H E hr => ?_)
  have c := cxo_of (P := P) (w := w) (K := K) (mg := mg) (base := base) (N := N_least_share) (outer := outer) (H := H) (E := E) hr
  exact (ss_one (ss_ret (se_call (w_share_by T) (hr.mono (by decide)) (sa_cons (se_var 0) (sa_cons (se_var 1) (sa_cons (se_var 2) (sa_cons (se_b (cd_max c) T.b_max bt_max (sa_cons se_int (sa_cons (se_op od_sub (se_op od_addA (se_var 1) (se_var 2)) (se_var 0)) sa_nil))) sa_nil)))))))
abbrev N_most_share : List Str := ["many", "one", "other"]
theorem sc_most_share : FnScope N_most_share ["many", "one", "other"] (defScope (topS 14)) := ⟨rfl, rfl, rfl, by decide +kernel, rfl, by decide +kernel, by decide +kernel⟩
def mb_most_share : MS := (mRet (mCall (fun ds => chk (ds.length = 4) (m_share_by ds)) (mCons (mVar 0) (mCons (mVar 1) (mCons (mVar 2) (mCons (mB gMin (mCons (mVar 1) (mCons (mVar 2) mNil))) mNil))))))
def m_most_share : List PyData → R PyData := bodyOf 3 mb_most_share
theorem w_most_share (T : Txt K mg) : Kn P w K mg base 4 "most_share" (topS 14) ["many", "one", "other"] (SpP (tri P w K) 3 m_most_share) := by
  refine kn_pure (k := 3) T.d_most_share sc_most_share rfl (by decide) (m := mb_most_share) (fun _ _ _ _ _ _ us hl => match us, hl with | [_, _, _], _ => rfl) (fun f cdv A outer s H E hr => ?_)
  have c := cxo_of (P := P) (w := w) (K := K) (mg := mg) (base := base) (N := N_most_share) (outer := outer) (H := H) (E := E) hr
  exact (ss_one (ss_ret (se_call (w_share_by T) (hr.mono (by decide)) (sa_cons (se_var 0) (sa_cons (se_var 1) (sa_cons (se_var 2) (sa_cons (se_b (cd_min c) T.b_min bt_min (sa_cons (se_var 1) (sa_cons (se_var 2) sa_nil))) sa_nil)))))))
abbrev N__law_box : List Str := ["_law_script", "_law_k", "_law_great_so"]
theorem sc__law_box : FnScope N__law_box ["_law_script", "_law_k"] (defScope (topS 16)) := ⟨rfl, rfl, rfl, by decide +kernel, rfl, by decide +kernel, by decide +kernel⟩
def mb__law_box : MS := (mSeq (mSet 2 (mIf (mTst (mBin dLt (mVar 1) (mB gLen (mCons (mVar 0) mNil)))) (mBin dIx (mVar 0) (mVar 1)) (mC (.int 0))))
    (mRetL (mLst (mCons (mBin dMulA (mB gAbs (mCons (mVar 2) mNil)) (mB gInt (mCons (mBin dGe (mB gAbs (mCons (mVar 2) mNil)) (mBin dPow (mC (.int 10)) (mC (.int 18)))) mNil))) (mCons (mBin dAddA (mBin dAddA (mBin dMod (mB gInt (mCons (mVar 2) mNil)) (mC (.int 2305843009213693951))) (mBin dMulA (mC (.int 39373)) (mVar 1))) (mC (.int 1613))) (mCons (mC (.int 0)) mNil))))))
def m__law_box : List PyData → R (List PyData) := bodyL 3 mb__law_box
theorem w__law_box (T : Txt K mg) : Kn P w K mg base 1 "_law_box" (topS 16) ["_law_script", "_law_k"] (SpL (tri P w K) 2 m__law_box) := by
  refine kn_list (k := 0) T.d__law_box sc__law_box rfl (by decide) (m := mb__law_box) (fun _ _ _ _ _ _ us hl => match us, hl with | [_, _], _ => rfl) (fun f cdv A outer s H E hr => ?_)
  have c := cxo_of (P := P) (w := w) (K := K) (mg := mg) (base := base) (N := N__law_box) (outer := outer) (H := H) (E := E) hr
  exact (ss_cons (ss_set (i := 2) sc__law_box.nd (se_if (st_cmp (od_lt c) (se_var 1) (se_b cd_len T.b_len bt_len (sa_cons (se_var 0) sa_nil))) (se_ix (se_var 0) (se_var 1)) se_int))
      (ss_one (ss_retL (sl_lst (sa_cons (se_op od_mulA (se_b cd_abs T.b_abs bt_abs (sa_cons (se_var 2) sa_nil)) (se_ty cd_int T.b_int bt_int (sa_cons (se_cmp (od_ge c) (se_b cd_abs T.b_abs bt_abs (sa_cons (se_var 2) sa_nil)) (se_op od_pow se_int se_int)) sa_nil))) (sa_cons (se_op od_addA (se_op od_addA (se_op od_mod (se_ty cd_int T.b_int bt_int (sa_cons (se_var 2) sa_nil)) se_int) (se_op od_mulA se_int (se_var 1))) se_int) (sa_cons se_int sa_nil)))))))
abbrev N__law_take : List Str := ["_law_box_here", "_law_top_so", "_law_digit_so", "_law_once", "_law_far", "_law_twice"]
theorem sc__law_take : FnScope N__law_take ["_law_box_here", "_law_top_so"] (defScope (topS 17)) := ⟨rfl, rfl, rfl, by decide +kernel, rfl, by decide +kernel, by decide +kernel⟩
def mb__law_take : MS := (mSeq (mIfS (mTst (mBin dGt (mBin dIx (mVar 0) (mC (.int 0))) (mC (.int 0))))
    (mSeq (mSet 2 (mBin dMod (mB gInt (mCons (mBin dIx (mVar 0) (mC (.int 0))) mNil)) (mVar 1)))
    (mSeq (mSetIx 0 (mC (.int 0)) (mBin dDiv (mBin dIx (mVar 0) (mC (.int 0))) (mVar 1)))
    (mRet (mVar 2))))
    mNext)
    (mSeq (mSetIx 0 (mC (.int 2)) (mBin dAddA (mBin dIx (mVar 0) (mC (.int 2))) (mC (.int 1))))
    (mSeq (mSet 3 (mBin dMod (mB gInt (mCons (mBin dMulA (mBin dAddA (mBin dIx (mVar 0) (mC (.int 1))) (mBin dMulA (mC (.int 48271)) (mBin dIx (mVar 0) (mC (.int 2))))) (mBin dAddA (mC (.int 39373)) (mBin dIx (mVar 0) (mC (.int 2))))) mNil)) (mC (.int 2147483647))))
    (mSeq (mSet 4 (mBin dAddA (mBin dMod (mB gInt (mCons (mVar 3) mNil)) (mC (.int 40009))) (mC (.int 7))))
    (mSeq (mSet 5 (mBin dMod (mB gInt (mCons (mBin dMulA (mBin dAddA (mBin dAddA (mVar 3) (mBin dIx (mVar 0) (mC (.int 2)))) (mBin dDiv (mBin dIx (mVar 0) (mC (.int 1))) (mC (.int 1000003)))) (mVar 4)) mNil)) (mC (.int 2147483629))))
    (mRet (mBin dMod (mB gInt (mCons (mBin dDiv (mBin dMod (mB gInt (mCons (mBin dAddA (mBin dMulA (mVar 5) (mC (.int 48271))) (mVar 3)) mNil)) (mC (.int 2147483587))) (mC (.int 64))) mNil)) (mVar 1))))))))
def m__law_take : List PyData → List PyData → R (PyData × List PyData) := bodyR 6 0 mb__law_take
theorem w__law_take (T : Txt K mg) : Kn P w K mg base 1 "_law_take" (topS 17) ["_law_box_here", "_law_top_so"] (SpR (tri P w K) 2 0 m__law_take) := by
  refine kn_ref (k := 0) T.d__law_take sc__law_take rfl (by decide) (by decide) (m := mb__law_take) (fun _ _ _ _ _ _ us hl => match us, hl with | [_, _], _ => rfl) (fun f cdv A outer s H E hr => ?_)
  have c := cxo_of (P := P) (w := w) (K := K) (mg := mg) (base := base) (N := N__law_take) (outer := outer) (H := H) (E := E) hr
  exact (ss_cons (ss_if (st_cmp (od_gt c) (se_ix (se_var 0) se_int) se_int)
      (ss_cons (ss_set (i := 2) sc__law_take.nd (se_op od_mod (se_ty cd_int T.b_int bt_int (sa_cons (se_ix (se_var 0) se_int) sa_nil)) (se_var 1)))
      (ss_cons (ss_setIx 0 se_int (se_op od_div (se_ix (se_var 0) se_int) (se_var 1)))
      (ss_one (ss_ret (se_var 2)))))
      ss_nil)
      (ss_cons (ss_setIx 0 se_int (se_op od_addA (se_ix (se_var 0) se_int) se_int))
      (ss_cons (ss_set (i := 3) sc__law_take.nd (se_op od_mod (se_ty cd_int T.b_int bt_int (sa_cons (se_op od_mulA (se_op od_addA (se_ix (se_var 0) se_int) (se_op od_mulA se_int (se_ix (se_var 0) se_int))) (se_op od_addA se_int (se_ix (se_var 0) se_int))) sa_nil)) se_int))
      (ss_cons (ss_set (i := 4) sc__law_take.nd (se_op od_addA (se_op od_mod (se_ty cd_int T.b_int bt_int (sa_cons (se_var 3) sa_nil)) se_int) se_int))
      (ss_cons (ss_set (i := 5) sc__law_take.nd (se_op od_mod (se_ty cd_int T.b_int bt_int (sa_cons (se_op od_mulA (se_op od_addA (se_op od_addA (se_var 3) (se_ix (se_var 0) se_int)) (se_op od_div (se_ix (se_var 0) se_int) se_int)) (se_var 4)) sa_nil)) se_int))
      (ss_one (ss_ret (se_op od_mod (se_ty cd_int T.b_int bt_int (sa_cons (se_op od_div (se_op od_mod (se_ty cd_int T.b_int bt_int (sa_cons (se_op od_addA (se_op od_mulA (se_var 5) se_int) (se_var 3)) sa_nil)) se_int) se_int) sa_nil)) (se_var 1)))))))))
abbrev N__law_cells : List Str := ["_law_script", "_law_most", "_law_cells_here", "_law_k", "_law_great_so", "_law_at_so"]
theorem sc__law_cells : FnScope N__law_cells ["_law_script", "_law_most"] (defScope (topS 18)) := ⟨rfl, rfl, rfl, by decide +kernel, rfl, by decide +kernel, by decide +kernel⟩
def p1__law_cells : MS := (mSeq (mSet 5 (mBin dMod (mB gInt (mCons (mVar 3) mNil)) (mVar 1)))
    (mSetIx 2 (mVar 5) (mBin dAddA (mBin dIx (mVar 2) (mVar 5)) (mBin dMulA (mVar 4) (mBin dAddA (mVar 3) (mC (.int 2)))))))
def mb__law_cells : MS := (mSeq (mSetL 2 (mLOr (mBL gList (mCons (mCut (mVar 0) mNoP (mP (mVar 1))) mNil)) (mLst (mCons (mC (.int 0)) mNil))))
    (mSeq (mFor (mEnum (mCut (mVar 0) (mP (mVar 1)) (mP (mC (.int 63))))) (gT 2 (gsC (gN 3) (gsC (gN 4) gsN)))
    p1__law_cells)
    (mRet (mVar 2))))
def m__law_cells : List PyData → R PyData := bodyOf 6 mb__law_cells
theorem w__law_cells (T : Txt K mg) : Kn P w K mg base 1 "_law_cells" (topS 18) ["_law_script", "_law_most"] (SpP (tri P w K) 2 m__law_cells) := by
  refine kn_pure (k := 0) T.d__law_cells sc__law_cells rfl (by decide) (m := mb__law_cells) (fun _ _ _ _ _ _ us hl => match us, hl with | [_, _], _ => rfl) (fun f cdv A outer s H E hr => ?_)
  have c := cxo_of (P := P) (w := w) (K := K) (mg := mg) (base := base) (N := N__law_cells) (outer := outer) (H := H) (E := E) hr
  exact (ss_cons (ss_setL (i := 2) sc__law_cells.nd (sl_or (sl_ty cd_list T.b_list bt_list (sa_cons (se_cut (se_var 0) so_none (so_some (se_var 1))) sa_nil)) (sl_lst (sa_cons se_int sa_nil))))
      (ss_cons (ss_for c PassesOwn.never (si_enum T.b_enumerate (se_cut (se_var 0) (so_some (se_var 1)) (so_some se_int))) (sg_tup c (sgs_cons (sg_name sc__law_cells.nd) (sgs_cons (sg_name sc__law_cells.nd) sgs_nil)))
      (ss_cons (ss_set (i := 5) sc__law_cells.nd (se_op od_mod (se_ty cd_int T.b_int bt_int (sa_cons (se_var 3) sa_nil)) (se_var 1)))
      (ss_one (ss_setIx 2 (se_var 5) (se_op od_addA (se_ix (se_var 2) (se_var 5)) (se_op od_mulA (se_var 4) (se_op od_addA (se_var 3) se_int)))))))
      (ss_one (ss_ret (se_var 2)))))
abbrev N__law_same : List Str := ["_law_got", "_law_due", "_law_own", "_law_mine", "_law_its"]
theorem sc__law_same : FnScope N__law_same ["_law_got", "_law_due"] (defScope (topS 19)) := ⟨rfl, rfl, rfl, by decide +kernel, rfl, by decide +kernel, by decide +kernel⟩
def p1__law_same (self : List PyData → R PyData) : M Hd := (mCall (fun ds => chk (ds.length = 2) (self ds)) (mCons (mVar 3) (mCons (mVar 4) mNil)))
def p2__law_same (self : List PyData → R PyData) : M Hd := (mCall (fun ds => chk (ds.length = 2) (self ds)) (mCons (mBin dIx (mVar 0) (mVar 2)) (mCons (mBin dIx (mVar 1) (mVar 2)) mNil)))
def mb__law_same (self : List PyData → R PyData) : MS := (mSeq (mIfS (mTst (ofKinds ["list", "tuple"] (mVar 1)))
    (mSeq (mIfS (mOrT (mTst (mBin dNe (ofKinds ["list"] (mVar 0)) (ofKinds ["list"] (mVar 1)))) (mTst (mBin dNe (ofKinds ["tuple"] (mVar 0)) (ofKinds ["tuple"] (mVar 1)))))
    (mRet (mC (.bool false)))
    mNext)
    (mRet (mAndV (mBin dEq (mB gLen (mCons (mVar 0) mNil)) (mB gLen (mCons (mVar 1) mNil))) (mB gAll (mCons (mDat (mLc (mZip (mVar 0) (mVar 1)) (gT 2 (gsC (gN 3) (gsC (gN 4) gsN))) mYes (p1__law_same self) [3, 4])) mNil)))))
    mNext)
    (mSeq (mIfS (mTst (ofKinds ["dict"] (mVar 1)))
    (mSeq (mIfS (mOrT (mNotT (mTst (ofKinds ["dict"] (mVar 0)))) (mTst (mBin dNe (mDat (mBL gSorted (mCons (mVar 0) mNil))) (mDat (mBL gSorted (mCons (mVar 1) mNil))))))
    (mRet (mC (.bool false)))
    mNext)
    (mRet (mB gAll (mCons (mDat (mLc (mIt (mVar 1)) (gN 2) mYes (p2__law_same self) [2])) mNil))))
    mNext)
    (mSeq (mIfS (mOrT (mTst (mBin dIsN (mVar 1) (mC (.none)))) (mTst (ofKinds ["bool", "str"] (mVar 1))))
    (mRet (mAndV (mBin dEq (mVar 0) (mVar 1)) (mAndV (mBin dEq (ofKinds ["bool"] (mVar 0)) (ofKinds ["bool"] (mVar 1))) (mBin dEq (mBin dIsN (mVar 0) (mC (.none))) (mBin dIsN (mVar 1) (mC (.none)))))))
    mNext)
    (mRet (mAndV (ofKinds ["int"] (mVar 0)) (mAndV (mNotV (ofKinds ["bool"] (mVar 0))) (mBin dEq (mVar 0) (mVar 1))))))))
def m__law_same : Nat → List PyData → R PyData
  | 0 => fun _ => .bad
  | n + 1 => bodyOf 5 (mb__law_same (m__law_same n))
theorem w__law_same (T : Txt K mg) : ∀ n, Kn P w K mg base (0 + n) "_law_same" (topS 19) ["_law_got", "_law_due"] (SpP (tri P w K) 2 (m__law_same n))
  | 0 => kn_bad T.d__law_same (fun _ _ _ _ _ _ us hl => match us, hl with | [_, _], _ => rfl)
  | n + 1 => by
    have ih := w__law_same T n
    refine kn_pure (k := 0 + n) T.d__law_same sc__law_same rfl (by decide) (m := mb__law_same (m__law_same n)) (fun _ _ _ _ _ _ us hl => match us, hl with | [_, _], _ => rfl) (fun f cdv A outer s H E hr => ?_)
    have c := cxo_of (P := P) (w := w) (K := K) (mg := mg) (base := base) (N := N__law_same) (outer := outer) (H := H) (E := E) hr
    exact (ss_cons (ss_if (st_val (se_isiT T.b_isinstance T.b_list T.b_tuple bt_list bt_tuple (by decide) (by decide) (se_var 1)))
      (ss_cons (ss_if (st_bool (sw_or (st_cmp (od_ne c) (se_isi T.b_isinstance T.b_list bt_list (by decide) (se_var 0)) (se_isi T.b_isinstance T.b_list bt_list (by decide) (se_var 1))) (sw_or1 (st_cmp (od_ne c) (se_isi T.b_isinstance T.b_tuple bt_tuple (by decide) (se_var 0)) (se_isi T.b_isinstance T.b_tuple bt_tuple (by decide) (se_var 1))))))
      (ss_one (ss_ret se_bl))
      ss_nil)
      (ss_one (ss_ret (se_and (se_cmp (od_eq c) (se_b cd_len T.b_len bt_len (sa_cons (se_var 0) sa_nil)) (se_b cd_len T.b_len bt_len (sa_cons (se_var 1) sa_nil))) (se_one (se_b (cd_all c) T.b_all bt_all (sa_cons (se_dat (slc (own := [("_law_mine", 3), ("_law_its", 4)]) c sc__law_same.nd (si_zip T.b_zip (se_var 0) (se_var 1)) (blkOk_by (N := N__law_same) (sc := defScope (topS 19)) (by decide +kernel)) (fun _ _ _ _ _ => (sg_tup c.blk (sgs_cons (sg_name sc__law_same.nd) (sgs_cons (sg_name sc__law_same.nd) sgs_nil)))) (fun _ _ _ _ _ => sts_nil) (fun _ _ _ _ _ => (se_call (ih) (hr.mono (by omega)) (sa_cons (se_var 3) (sa_cons (se_var 4) sa_nil)))))) sa_nil)))))))
      ss_nil)
      (ss_cons (ss_if (st_val (se_isi T.b_isinstance T.b_dict bt_dict (by decide) (se_var 1)))
      (ss_cons (ss_if (st_bool (sw_or (st_not (st_val (se_isi T.b_isinstance T.b_dict bt_dict (by decide) (se_var 0)))) (sw_or1 (st_cmp (od_ne c) (se_dat (sl_b (cd_sorted c) T.b_sorted bt_sorted (sa_cons (se_var 0) sa_nil))) (se_dat (sl_b (cd_sorted c) T.b_sorted bt_sorted (sa_cons (se_var 1) sa_nil)))))))
      (ss_one (ss_ret se_bl))
      ss_nil)
      (ss_one (ss_ret (se_b (cd_all c) T.b_all bt_all (sa_cons (se_dat (slc (own := [("_law_own", 2)]) c sc__law_same.nd (si_it (se_var 1)) (blkOk_by (N := N__law_same) (sc := defScope (topS 19)) (by decide +kernel)) (fun _ _ _ _ _ => (sg_name sc__law_same.nd)) (fun _ _ _ _ _ => sts_nil) (fun _ _ _ _ _ => (se_call (ih) (hr.mono (by omega)) (sa_cons (se_ix (se_var 0) (se_var 2)) (sa_cons (se_ix (se_var 1) (se_var 2)) sa_nil)))))) sa_nil)))))
      ss_nil)
      (ss_cons (ss_if (st_bool (sw_or (st_cmp od_isN (se_var 1) se_non) (sw_or1 (st_val (se_isiT T.b_isinstance T.b_bool T.b_str bt_bool bt_str (by decide) (by decide) (se_var 1))))))
      (ss_one (ss_ret (se_and (se_cmp (od_eq c) (se_var 0) (se_var 1)) (se_and (se_cmp (od_eq c) (se_isi T.b_isinstance T.b_bool bt_bool (by decide) (se_var 0)) (se_isi T.b_isinstance T.b_bool bt_bool (by decide) (se_var 1))) (se_one (se_cmp (od_eq c) (se_cmp od_isN (se_var 0) se_non) (se_cmp od_isN (se_var 1) se_non)))))))
      ss_nil)
      (ss_one (ss_ret (se_and (se_isi T.b_isinstance T.b_int bt_int (by decide) (se_var 0)) (se_and (se_not (se_isi T.b_isinstance T.b_bool bt_bool (by decide) (se_var 0))) (se_one (se_cmp (od_eq c) (se_var 0) (se_var 1))))))))))
abbrev N__law_every : List Str := ["_law_all_so", "_law_ones_so", "_law_twos_so", "_law_found", "_law_k", "_law_lots", "_law_own"]
theorem sc__law_every : FnScope N__law_every ["_law_all_so", "_law_ones_so", "_law_twos_so"] (defScope (topS 20)) := ⟨rfl, rfl, rfl, by decide +kernel, rfl, by decide +kernel, by decide +kernel⟩
def p1__law_every : M Hd := (mBin dIx (mVar 6) (mC (.int 1)))
def p2__law_every : M Hd := (mVar 6)
def p3__law_every : M Bool := (mTst (mBin dGt (mBin dIx (mVar 6) (mC (.int 1))) (mC (.int 0))))
def p4__law_every : MS := (mSeq (mSet 5 (mDat (mLst (mCons (mTup (mCons (mTup mNil) (mCons (mBin dAddA (mBin dSub (mBin dSub (mVar 0) (mVar 1)) (mVar 2)) (mVar 4)) mNil))) (mCons (mTup (mCons (mTup (mCons (mC (.str "a")) mNil)) (mCons (mBin dSub (mVar 1) (mVar 4)) mNil))) (mCons (mTup (mCons (mTup (mCons (mC (.str "a")) (mCons (mC (.str "b")) mNil))) (mCons (mVar 4) mNil))) (mCons (mTup (mCons (mTup (mCons (mC (.str "b")) mNil)) (mCons (mBin dSub (mVar 2) (mVar 4)) mNil))) mNil)))))))
    (mIfS (mTst (mBin dGe (mB gMin (mCons (mDat (mLc (mIt (mVar 5)) (gN 6) mYes p1__law_every [6])) mNil)) (mC (.int 0))))
    (mDrop (mApp 3 (mTup (mCons (mVar 4) (mCons (mTup (mCons (mTup (mCons (mC (.str "a")) (mCons (mC (.str "b")) mNil))) (mCons (mB gTuple (mCons (mDat (mLc (mIt (mVar 5)) (gN 6) p3__law_every p2__law_every [6])) mNil)) mNil))) mNil)))))
    mNext))
def mb__law_every : MS := (mSeq (mSetL 3 (mLst mNil))
    (mSeq (mFor (mRange1 (mBin dAddA (mVar 0) (mC (.int 1)))) (gN 4)
    p4__law_every)
    (mRet (mVar 3))))
def m__law_every : List PyData → R PyData := bodyOf 7 mb__law_every
theorem w__law_every (T : Txt K mg) : Kn P w K mg base 1 "_law_every" (topS 20) ["_law_all_so", "_law_ones_so", "_law_twos_so"] (SpP (tri P w K) 3 m__law_every) := by
  refine kn_pure (k := 0) T.d__law_every sc__law_every rfl (by decide) (m := mb__law_every) (fun _ _ _ _ _ _ us hl => match us, hl with | [_, _, _], _ => rfl) (fun f cdv A outer s H E hr => ?_)
  have c := cxo_of (P := P) (w := w) (K := K) (mg := mg) (base := base) (N := N__law_every) (outer := outer) (H := H) (E := E) hr
  exact (ss_cons (ss_setL (i := 3) sc__law_every.nd (sl_lst sa_nil))
      (ss_cons (ss_for c PassesOwn.never (si_range1 T.b_range (se_op od_addA (se_var 0) se_int)) (sg_name sc__law_every.nd)
      (ss_cons (ss_set (i := 5) sc__law_every.nd (se_dat (sl_lst (sa_cons (se_tup (sa_cons (se_tup sa_nil) (sa_cons (se_op od_addA (se_op od_sub (se_op od_sub (se_var 0) (se_var 1)) (se_var 2)) (se_var 4)) sa_nil))) (sa_cons (se_tup (sa_cons (se_tup (sa_cons se_str sa_nil)) (sa_cons (se_op od_sub (se_var 1) (se_var 4)) sa_nil))) (sa_cons (se_tup (sa_cons (se_tup (sa_cons se_str (sa_cons se_str sa_nil))) (sa_cons (se_var 4) sa_nil))) (sa_cons (se_tup (sa_cons (se_tup (sa_cons se_str sa_nil)) (sa_cons (se_op od_sub (se_var 2) (se_var 4)) sa_nil))) sa_nil)))))))
      (ss_one (ss_if (st_cmp (od_ge c) (se_b (cd_min c) T.b_min bt_min (sa_cons (se_dat (slc (own := [("_law_own", 6)]) c sc__law_every.nd (si_it (se_var 5)) (blkOk_by (N := N__law_every) (sc := defScope (topS 20)) (by decide +kernel)) (fun _ _ _ _ _ => (sg_name sc__law_every.nd)) (fun _ _ _ _ _ => sts_nil) (fun _ _ _ _ _ => (se_ix (se_var 6) se_int)))) sa_nil)) se_int)
      (ss_one (ss_drop (se_app 3 (se_tup (sa_cons (se_var 4) (sa_cons (se_tup (sa_cons (se_tup (sa_cons se_str (sa_cons se_str sa_nil))) (sa_cons (se_ty cd_tuple T.b_tuple bt_tuple (sa_cons (se_dat (slc (own := [("_law_own", 6)]) c sc__law_every.nd (si_it (se_var 5)) (blkOk_by (N := N__law_every) (sc := defScope (topS 20)) (by decide +kernel)) (fun _ _ _ _ _ => (sg_name sc__law_every.nd)) (fun _ _ _ _ _ => (sts_one (st_cmp (od_gt c.blk) (se_ix (se_var 6) se_int) se_int))) (fun _ _ _ _ _ => (se_var 6)))) sa_nil)) sa_nil))) sa_nil))))))
      ss_nil))))
      (ss_one (ss_ret (se_var 3)))))
abbrev N__law_less_than : List Str := ["_law_mine", "_law_its"]
theorem sc__law_less_than : FnScope N__law_less_than ["_law_mine", "_law_its"] (defScope (topS 21)) := ⟨rfl, rfl, rfl, by decide +kernel, rfl, by decide +kernel, by decide +kernel⟩
def mb__law_less_than : MS := (mRet (mBin dLt (mBin dMulA (mBin dIx (mVar 0) (mC (.int 0))) (mBin dIx (mVar 1) (mC (.int 1)))) (mBin dMulA (mBin dIx (mVar 1) (mC (.int 0))) (mBin dIx (mVar 0) (mC (.int 1))))))
def m__law_less_than : List PyData → R PyData := bodyOf 2 mb__law_less_than
theorem w__law_less_than (T : Txt K mg) : Kn P w K mg base 1 "_law_less_than" (topS 21) ["_law_mine", "_law_its"] (SpP (tri P w K) 2 m__law_less_than) := by
  refine kn_pure (k := 0) T.d__law_less_than sc__law_less_than rfl (by decide) (m := mb__law_less_than) (fun _ _ _ _ _ _ us hl => match us, hl with | [_, _], _ => rfl) (fun f cdv A outer s H E hr => ?_)
  have c := cxo_of (P := P) (w := w) (K := K) (mg := mg) (base := base) (N := N__law_less_than) (outer := outer) (H := H) (E := E) hr
  exact (ss_one (ss_ret (se_cmp (od_lt c) (se_op od_mulA (se_ix (se_var 0) se_int) (se_ix (se_var 1) se_int)) (se_op od_mulA (se_ix (se_var 1) se_int) (se_ix (se_var 0) se_int)))))
abbrev N__law_case_right : List Str := ["_law_all_so", "_law_ones_so", "_law_twos_so", "_law_every_here", "_law_calm", "_law_seen", "_law_low_so", "_law_high_so", "_law_own", "_law_due", "_law_got", "_law_more_so", "_law_k", "_law_stock"]
theorem sc__law_case_right : FnScope N__law_case_right ["_law_all_so", "_law_ones_so", "_law_twos_so"] (defScope (topS 22)) := ⟨rfl, rfl, rfl, by decide +kernel, rfl, by decide +kernel, by decide +kernel⟩
def p1__law_case_right : M Hd := (mVar 12)
def p2__law_case_right : M Bool := (mTst (mBin dEq (mBin dMulA (mVar 12) (mVar 0)) (mBin dMulA (mVar 1) (mVar 2))))
def p3__law_case_right : M Hd := (mCall (fun ds => chk (ds.length = 3) (m_share ds)) (mCons (mVar 13) (mCons (mC (.str "a")) (mCons (mC (.str "b")) mNil))))
def p4__law_case_right : MS := (mSeq (mSet 6 (mIf (mTst (mCall (fun ds => chk (ds.length = 2) (m__law_less_than ds)) (mCons (mVar 8) (mCons (mVar 6) mNil)))) (mVar 8) (mVar 6)))
    (mSet 7 (mIf (mTst (mCall (fun ds => chk (ds.length = 2) (m__law_less_than ds)) (mCons (mVar 7) (mCons (mVar 8) mNil)))) (mVar 8) (mVar 7))))
def mb__law_case_right : MS := (mSeq (mSet 3 (mCall (fun ds => chk (ds.length = 3) (m__law_every ds)) (mCons (mVar 0) (mCons (mVar 1) (mCons (mVar 2) mNil)))))
    (mSeq (mSet 4 (mDat (mLc (mIt (mVar 3)) (gT 2 (gsC (gN 12) (gsC (gN 13) gsN))) p2__law_case_right p1__law_case_right [12, 13])))
    (mSeq (mSet 5 (mDat (mLc (mIt (mVar 3)) (gT 2 (gsC (gN 12) (gsC (gN 13) gsN))) mYes p3__law_case_right [12, 13])))
    (mSeq (mPar [6, 7] (mCons (mBin dIx (mVar 5) (mC (.int 0))) (mCons (mBin dIx (mVar 5) (mC (.int 0))) mNil)))
    (mSeq (mFor (mIt (mVar 5)) (gN 8)
    p4__law_case_right)
    (mSeq (mSet 9 (mDat (mLst (mCons (mIf (mTst (mBin dNe (mVar 4) (mDat (mLst mNil)))) (mBin dIx (mVar 4) (mC (.int 0))) (mC (.none))) (mCons (mVar 6) (mCons (mVar 7) mNil))))))
    (mSeq (mSet 10 (mDat (mLst (mCons (mCall (fun ds => chk (ds.length = 3) (m_both_wanted ds)) (mCons (mVar 0) (mCons (mVar 1) (mCons (mVar 2) mNil)))) (mCons (mCall (fun ds => chk (ds.length = 3) (m_least_share ds)) (mCons (mVar 0) (mCons (mVar 1) (mCons (mVar 2) mNil)))) (mCons (mCall (fun ds => chk (ds.length = 3) (m_most_share ds)) (mCons (mVar 0) (mCons (mVar 1) (mCons (mVar 2) mNil)))) mNil))))))
    (mSeq (mSetL 11 (mLst (mCons (mCallK 0 3 [2, 1, 0] (fun ds => chk (ds.length = 3) (m_both_wanted ds)) mNil (mCons (mVar 2) (mCons (mVar 1) (mCons (mVar 0) mNil)))) (mCons (mCallK 0 3 [2, 1, 0] (fun ds => chk (ds.length = 3) (m_least_share ds)) mNil (mCons (mVar 2) (mCons (mVar 1) (mCons (mVar 0) mNil)))) mNil))))
    (mSeq (mDrop (mApp 11 (mCallK 0 3 [2, 1, 0] (fun ds => chk (ds.length = 3) (m_most_share ds)) mNil (mCons (mVar 2) (mCons (mVar 1) (mCons (mVar 0) mNil))))))
    (mRet (mCall (fun ds => chk (ds.length = 2) ((m__law_same 16) ds)) (mCons (mDat (mLst (mCons (mVar 10) (mCons (mVar 11) mNil)))) (mCons (mDat (mLst (mCons (mVar 9) (mCons (mVar 9) mNil)))) mNil)))))))))))))
def m__law_case_right : List PyData → R PyData := bodyOf 14 mb__law_case_right
theorem w__law_case_right (T : Txt K mg) : Kn P w K mg base 17 "_law_case_right" (topS 22) ["_law_all_so", "_law_ones_so", "_law_twos_so"] (SpP (tri P w K) 3 m__law_case_right) := by
  refine kn_pure (k := 16) T.d__law_case_right sc__law_case_right rfl (by decide) (m := mb__law_case_right) (fun _ _ _ _ _ _ us hl => match us, hl with | [_, _, _], _ => rfl) (fun f cdv A outer s H E hr => ?_)
  have c := cxo_of (P := P) (w := w) (K := K) (mg := mg) (base := base) (N := N__law_case_right) (outer := outer) (H := H) (E := E) hr
  exact (ss_cons (ss_set (i := 3) sc__law_case_right.nd (se_call (w__law_every T) (hr.mono (by decide)) (sa_cons (se_var 0) (sa_cons (se_var 1) (sa_cons (se_var 2) sa_nil)))))
      (ss_cons (ss_setLc (i := 4) (own := [("_law_k", 12), ("_law_stock", 13)]) c sc__law_case_right.nd (si_it (se_var 3)) (blkOk_by (N := N__law_case_right) (sc := defScope (topS 22)) (by decide +kernel)) (fun _ _ _ _ _ => (sg_tup c.blk (sgs_cons (sg_name sc__law_case_right.nd) (sgs_cons (sg_name sc__law_case_right.nd) sgs_nil)))) (fun _ _ _ _ _ => (sts_one (st_cmp (od_eq c.blk) (se_op od_mulA (se_var 12) (se_var 0)) (se_op od_mulA (se_var 1) (se_var 2))))) (fun _ _ _ _ _ => (se_var 12)))
      (ss_cons (ss_setLc (i := 5) (own := [("_law_k", 12), ("_law_stock", 13)]) c sc__law_case_right.nd (si_it (se_var 3)) (blkOk_by (N := N__law_case_right) (sc := defScope (topS 22)) (by decide +kernel)) (fun _ _ _ _ _ => (sg_tup c.blk (sgs_cons (sg_name sc__law_case_right.nd) (sgs_cons (sg_name sc__law_case_right.nd) sgs_nil)))) (fun _ _ _ _ _ => sts_nil) (fun _ _ _ _ _ => (se_call (w_share T) (hr.mono (by decide)) (sa_cons (se_var 13) (sa_cons se_str (sa_cons se_str sa_nil))))))
      (ss_cons (ss_par2 c sc__law_case_right.nd (sa_cons (se_ix (se_var 5) se_int) (sa_cons (se_ix (se_var 5) se_int) sa_nil)))
      (ss_cons (ss_for c PassesOwn.never (si_it (se_var 5)) (sg_name sc__law_case_right.nd)
      (ss_cons (ss_set (i := 6) sc__law_case_right.nd (se_if (st_val (se_call (w__law_less_than T) (hr.mono (by decide)) (sa_cons (se_var 8) (sa_cons (se_var 6) sa_nil)))) (se_var 8) (se_var 6)))
      (ss_one (ss_set (i := 7) sc__law_case_right.nd (se_if (st_val (se_call (w__law_less_than T) (hr.mono (by decide)) (sa_cons (se_var 7) (sa_cons (se_var 8) sa_nil)))) (se_var 8) (se_var 7))))))
      (ss_cons (ss_set (i := 9) sc__law_case_right.nd (se_dat (sl_lst (sa_cons (se_if (st_cmp (od_ne c) (se_var 4) (se_dat (sl_lst sa_nil))) (se_ix (se_var 4) se_int) se_non) (sa_cons (se_var 6) (sa_cons (se_var 7) sa_nil))))))
      (ss_cons (ss_set (i := 10) sc__law_case_right.nd (se_dat (sl_lst (sa_cons (se_call (w_both_wanted T) (hr.mono (by decide)) (sa_cons (se_var 0) (sa_cons (se_var 1) (sa_cons (se_var 2) sa_nil)))) (sa_cons (se_call (w_least_share T) (hr.mono (by decide)) (sa_cons (se_var 0) (sa_cons (se_var 1) (sa_cons (se_var 2) sa_nil)))) (sa_cons (se_call (w_most_share T) (hr.mono (by decide)) (sa_cons (se_var 0) (sa_cons (se_var 1) (sa_cons (se_var 2) sa_nil)))) sa_nil))))))
      (ss_cons (ss_setL (i := 11) sc__law_case_right.nd (sl_lst (sa_cons (se_callK0 (ks := ["other", "one", "many"]) [2, 1, 0] (w_both_wanted T) (fun _ _ _ _ _ _ us ws h1 h2 => match us, ws, h1, h2 with | [], [_, _, _], _, _ => rfl) (hr.mono (by decide)) (sk_cons (se_var 2) (sk_cons (se_var 1) (sk_cons (se_var 0) sk_nil)))) (sa_cons (se_callK0 (ks := ["other", "one", "many"]) [2, 1, 0] (w_least_share T) (fun _ _ _ _ _ _ us ws h1 h2 => match us, ws, h1, h2 with | [], [_, _, _], _, _ => rfl) (hr.mono (by decide)) (sk_cons (se_var 2) (sk_cons (se_var 1) (sk_cons (se_var 0) sk_nil)))) sa_nil))))
      (ss_cons (ss_drop (se_app 11 (se_callK0 (ks := ["other", "one", "many"]) [2, 1, 0] (w_most_share T) (fun _ _ _ _ _ _ us ws h1 h2 => match us, ws, h1, h2 with | [], [_, _, _], _, _ => rfl) (hr.mono (by decide)) (sk_cons (se_var 2) (sk_cons (se_var 1) (sk_cons (se_var 0) sk_nil))))))
      (ss_one (ss_ret (se_call (w__law_same T 16) (hr.mono (by decide)) (sa_cons (se_dat (sl_lst (sa_cons (se_var 10) (sa_cons (se_var 11) sa_nil)))) (sa_cons (se_dat (sl_lst (sa_cons (se_var 9) (sa_cons (se_var 9) sa_nil)))) sa_nil))))))))))))))
abbrev N__law_by_hand_right : List Str := ["_law_great_so", "_law_got", "_law_due"]
theorem sc__law_by_hand_right : FnScope N__law_by_hand_right [] (defScope (topS 23)) := ⟨rfl, rfl, rfl, by decide +kernel, rfl, by decide +kernel, by decide +kernel⟩
def mb__law_by_hand_right : MS := (mSeq (mSet 0 (mBin dPow (mC (.int 10)) (mC (.int 40))))
    (mSeq (mSet 1 (mDat (mLst (mCons (mCall (fun ds => chk (ds.length = 3) (m_both_wanted ds)) (mCons (mC (.int 15)) (mCons (mC (.int 6)) (mCons (mC (.int 5)) mNil)))) (mCons (mCall (fun ds => chk (ds.length = 3) (m_both_wanted ds)) (mCons (mC (.int 10)) (mCons (mC (.int 5)) (mCons (mC (.int 5)) mNil)))) (mCons (mCall (fun ds => chk (ds.length = 3) (m_both_wanted ds)) (mCons (mC (.int 7)) (mCons (mC (.int 0)) (mCons (mC (.int 3)) mNil)))) (mCons (mCall (fun ds => chk (ds.length = 3) (m_both_wanted ds)) (mCons (mC (.int 7)) (mCons (mC (.int 7)) (mCons (mC (.int 3)) mNil)))) (mCons (mCall (fun ds => chk (ds.length = 3) (m_both_wanted ds)) (mCons (mC (.int 1)) (mCons (mC (.int 1)) (mCons (mC (.int 1)) mNil)))) mNil))))))))
    (mSeq (mSet 2 (mDat (mLst (mCons (mC (.int 2)) (mCons (mC (.none)) (mCons (mC (.int 0)) (mCons (mC (.int 3)) (mCons (mC (.int 1)) mNil))))))))
    (mSeq (mSet 1 (mDat (mLAdd (mVar 1) (mDat (mLst (mCons (mCall (fun ds => chk (ds.length = 3) (m_least_share ds)) (mCons (mC (.int 10)) (mCons (mC (.int 6)) (mCons (mC (.int 7)) mNil)))) (mCons (mCall (fun ds => chk (ds.length = 3) (m_most_share ds)) (mCons (mC (.int 10)) (mCons (mC (.int 6)) (mCons (mC (.int 7)) mNil)))) (mCons (mCall (fun ds => chk (ds.length = 3) (m_least_share ds)) (mCons (mC (.int 10)) (mCons (mC (.int 6)) (mCons (mC (.int 0)) mNil)))) (mCons (mCall (fun ds => chk (ds.length = 3) (m_most_share ds)) (mCons (mC (.int 10)) (mCons (mC (.int 0)) (mCons (mC (.int 7)) mNil)))) (mCons (mCall (fun ds => chk (ds.length = 3) (m_least_share ds)) (mCons (mC (.int 10)) (mCons (mC (.int 10)) (mCons (mC (.int 7)) mNil)))) mNil))))))))))
    (mSeq (mSet 2 (mDat (mLAdd (mVar 2) (mDat (mLst (mCons (mTup (mCons (mUn dNeg (mC (.int 4))) (mCons (mC (.int 7)) mNil))) (mCons (mTup (mCons (mC (.int 6)) (mCons (mC (.int 7)) mNil))) (mCons (mTup (mCons (mC (.int 0)) (mCons (mC (.int 1)) mNil))) (mCons (mTup (mCons (mC (.int 0)) (mCons (mC (.int 1)) mNil))) (mCons (mTup (mCons (mC (.int 0)) (mCons (mC (.int 1)) mNil))) mNil))))))))))
    (mSeq (mSet 1 (mDat (mLAdd (mVar 1) (mDat (mLst (mCons (mCall (fun ds => chk (ds.length = 3) (m_most_share ds)) (mCons (mC (.int 10)) (mCons (mC (.int 3)) (mCons (mC (.int 3)) mNil)))) (mCons (mCall (fun ds => chk (ds.length = 3) (m_least_share ds)) (mCons (mC (.int 10)) (mCons (mC (.int 3)) (mCons (mC (.int 7)) mNil)))) (mCons (mCall (fun ds => chk (ds.length = 3) (m_most_share ds)) (mCons (mC (.int 10)) (mCons (mC (.int 6)) (mCons (mC (.int 10)) mNil)))) (mCons (mCall (fun ds => chk (ds.length = 3) (m_least_share ds)) (mCons (mC (.int 6)) (mCons (mC (.int 2)) (mCons (mC (.int 3)) mNil)))) (mCons (mCall (fun ds => chk (ds.length = 3) (m_most_share ds)) (mCons (mC (.int 6)) (mCons (mC (.int 2)) (mCons (mC (.int 3)) mNil)))) mNil))))))))))
    (mSeq (mSet 2 (mDat (mLAdd (mVar 2) (mDat (mLst (mCons (mTup (mCons (mC (.int 1)) (mCons (mC (.int 1)) mNil))) (mCons (mTup (mCons (mUn dNeg (mC (.int 1))) (mCons (mC (.int 1)) mNil))) (mCons (mTup (mCons (mC (.int 0)) (mCons (mC (.int 1)) mNil))) (mCons (mTup (mCons (mUn dNeg (mC (.int 2))) (mCons (mC (.int 3)) mNil))) (mCons (mTup (mCons (mC (.int 2)) (mCons (mC (.int 3)) mNil))) mNil))))))))))
    (mSeq (mSet 1 (mDat (mLAdd (mVar 1) (mDat (mLst (mCons (mCall (fun ds => chk (ds.length = 3) (m_most_share ds)) (mCons (mC (.int 10)) (mCons (mC (.int 7)) (mCons (mC (.int 6)) mNil)))) (mCons (mCall (fun ds => chk (ds.length = 3) (m_least_share ds)) (mCons (mC (.int 10)) (mCons (mC (.int 7)) (mCons (mC (.int 6)) mNil)))) mNil)))))))
    (mSeq (mSet 2 (mDat (mLAdd (mVar 2) (mDat (mLst (mCons (mTup (mCons (mC (.int 3)) (mCons (mC (.int 4)) mNil))) (mCons (mTup (mCons (mUn dNeg (mC (.int 1))) (mCons (mC (.int 2)) mNil))) mNil)))))))
    (mSeq (mSet 1 (mDat (mLAdd (mVar 1) (mDat (mLst (mCons (mCall (fun ds => chk (ds.length = 3) (m_both_wanted ds)) (mCons (mVar 0) (mCons (mBin dPow (mC (.int 10)) (mC (.int 39))) (mCons (mBin dPow (mC (.int 10)) (mC (.int 39))) mNil)))) (mCons (mCall (fun ds => chk (ds.length = 3) (m_both_wanted ds)) (mCons (mVar 0) (mCons (mBin dSub (mVar 0) (mC (.int 1))) (mCons (mBin dPow (mC (.int 10)) (mC (.int 39))) mNil)))) mNil)))))))
    (mSeq (mSet 1 (mDat (mLAdd (mVar 1) (mDat (mLst (mCons (mCall (fun ds => chk (ds.length = 3) (m_most_share ds)) (mCons (mVar 0) (mCons (mBin dPow (mC (.int 10)) (mC (.int 39))) (mCons (mBin dPow (mC (.int 10)) (mC (.int 39))) mNil)))) (mCons (mCall (fun ds => chk (ds.length = 3) (m_least_share ds)) (mCons (mVar 0) (mCons (mBin dPow (mC (.int 10)) (mC (.int 39))) (mCons (mBin dPow (mC (.int 10)) (mC (.int 39))) mNil)))) mNil)))))))
    (mRet (mCall (fun ds => chk (ds.length = 2) ((m__law_same 16) ds)) (mCons (mVar 1) (mCons (mDat (mLAdd (mVar 2) (mDat (mLst (mCons (mBin dPow (mC (.int 10)) (mC (.int 38))) (mCons (mC (.none)) (mCons (mTup (mCons (mC (.int 1)) (mCons (mC (.int 1)) mNil))) (mCons (mTup (mCons (mUn dNeg (mC (.int 1))) (mCons (mC (.int 9)) mNil))) mNil)))))))) mNil)))))))))))))))
def m__law_by_hand_right : List PyData → R PyData := bodyOf 3 mb__law_by_hand_right
theorem w__law_by_hand_right (T : Txt K mg) : Kn P w K mg base 17 "_law_by_hand_right" (topS 23) [] (SpP (tri P w K) 0 m__law_by_hand_right) := by
  refine kn_pure (k := 16) T.d__law_by_hand_right sc__law_by_hand_right rfl (by decide) (m := mb__law_by_hand_right) (fun _ _ _ _ _ _ us hl => match us, hl with | [], _ => rfl) (fun f cdv A outer s H E hr => ?_)
  have c := cxo_of (P := P) (w := w) (K := K) (mg := mg) (base := base) (N := N__law_by_hand_right) (outer := outer) (H := H) (E := E) hr
  exact (ss_cons (ss_set (i := 0) sc__law_by_hand_right.nd (se_op od_pow se_int se_int))
      (ss_cons (ss_set (i := 1) sc__law_by_hand_right.nd (se_dat (sl_lst (sa_cons (se_call (w_both_wanted T) (hr.mono (by decide)) (sa_cons se_int (sa_cons se_int (sa_cons se_int sa_nil)))) (sa_cons (se_call (w_both_wanted T) (hr.mono (by decide)) (sa_cons se_int (sa_cons se_int (sa_cons se_int sa_nil)))) (sa_cons (se_call (w_both_wanted T) (hr.mono (by decide)) (sa_cons se_int (sa_cons se_int (sa_cons se_int sa_nil)))) (sa_cons (se_call (w_both_wanted T) (hr.mono (by decide)) (sa_cons se_int (sa_cons se_int (sa_cons se_int sa_nil)))) (sa_cons (se_call (w_both_wanted T) (hr.mono (by decide)) (sa_cons se_int (sa_cons se_int (sa_cons se_int sa_nil)))) sa_nil))))))))
      (ss_cons (ss_set (i := 2) sc__law_by_hand_right.nd (se_dat (sl_lst (sa_cons se_int (sa_cons se_non (sa_cons se_int (sa_cons se_int (sa_cons se_int sa_nil))))))))
      (ss_cons (ss_set (i := 1) sc__law_by_hand_right.nd (se_dat (sl_add (se_var 1) (se_dat (sl_lst (sa_cons (se_call (w_least_share T) (hr.mono (by decide)) (sa_cons se_int (sa_cons se_int (sa_cons se_int sa_nil)))) (sa_cons (se_call (w_most_share T) (hr.mono (by decide)) (sa_cons se_int (sa_cons se_int (sa_cons se_int sa_nil)))) (sa_cons (se_call (w_least_share T) (hr.mono (by decide)) (sa_cons se_int (sa_cons se_int (sa_cons se_int sa_nil)))) (sa_cons (se_call (w_most_share T) (hr.mono (by decide)) (sa_cons se_int (sa_cons se_int (sa_cons se_int sa_nil)))) (sa_cons (se_call (w_least_share T) (hr.mono (by decide)) (sa_cons se_int (sa_cons se_int (sa_cons se_int sa_nil)))) sa_nil))))))))))
      (ss_cons (ss_set (i := 2) sc__law_by_hand_right.nd (se_dat (sl_add (se_var 2) (se_dat (sl_lst (sa_cons (se_tup (sa_cons (se_un ud_neg se_int) (sa_cons se_int sa_nil))) (sa_cons (se_tup (sa_cons se_int (sa_cons se_int sa_nil))) (sa_cons (se_tup (sa_cons se_int (sa_cons se_int sa_nil))) (sa_cons (se_tup (sa_cons se_int (sa_cons se_int sa_nil))) (sa_cons (se_tup (sa_cons se_int (sa_cons se_int sa_nil))) sa_nil))))))))))
      (ss_cons (ss_set (i := 1) sc__law_by_hand_right.nd (se_dat (sl_add (se_var 1) (se_dat (sl_lst (sa_cons (se_call (w_most_share T) (hr.mono (by decide)) (sa_cons se_int (sa_cons se_int (sa_cons se_int sa_nil)))) (sa_cons (se_call (w_least_share T) (hr.mono (by decide)) (sa_cons se_int (sa_cons se_int (sa_cons se_int sa_nil)))) (sa_cons (se_call (w_most_share T) (hr.mono (by decide)) (sa_cons se_int (sa_cons se_int (sa_cons se_int sa_nil)))) (sa_cons (se_call (w_least_share T) (hr.mono (by decide)) (sa_cons se_int (sa_cons se_int (sa_cons se_int sa_nil)))) (sa_cons (se_call (w_most_share T) (hr.mono (by decide)) (sa_cons se_int (sa_cons se_int (sa_cons se_int sa_nil)))) sa_nil))))))))))
      (ss_cons (ss_set (i := 2) sc__law_by_hand_right.nd (se_dat (sl_add (se_var 2) (se_dat (sl_lst (sa_cons (se_tup (sa_cons se_int (sa_cons se_int sa_nil))) (sa_cons (se_tup (sa_cons (se_un ud_neg se_int) (sa_cons se_int sa_nil))) (sa_cons (se_tup (sa_cons se_int (sa_cons se_int sa_nil))) (sa_cons (se_tup (sa_cons (se_un ud_neg se_int) (sa_cons se_int sa_nil))) (sa_cons (se_tup (sa_cons se_int (sa_cons se_int sa_nil))) sa_nil))))))))))
      (ss_cons (ss_set (i := 1) sc__law_by_hand_right.nd (se_dat (sl_add (se_var 1) (se_dat (sl_lst (sa_cons (se_call (w_most_share T) (hr.mono (by decide)) (sa_cons se_int (sa_cons se_int (sa_cons se_int sa_nil)))) (sa_cons (se_call (w_least_share T) (hr.mono (by decide)) (sa_cons se_int (sa_cons se_int (sa_cons se_int sa_nil)))) sa_nil)))))))
      (ss_cons (ss_set (i := 2) sc__law_by_hand_right.nd (se_dat (sl_add (se_var 2) (se_dat (sl_lst (sa_cons (se_tup (sa_cons se_int (sa_cons se_int sa_nil))) (sa_cons (se_tup (sa_cons (se_un ud_neg se_int) (sa_cons se_int sa_nil))) sa_nil)))))))
      (ss_cons (ss_set (i := 1) sc__law_by_hand_right.nd (se_dat (sl_add (se_var 1) (se_dat (sl_lst (sa_cons (se_call (w_both_wanted T) (hr.mono (by decide)) (sa_cons (se_var 0) (sa_cons (se_op od_pow se_int se_int) (sa_cons (se_op od_pow se_int se_int) sa_nil)))) (sa_cons (se_call (w_both_wanted T) (hr.mono (by decide)) (sa_cons (se_var 0) (sa_cons (se_op od_sub (se_var 0) se_int) (sa_cons (se_op od_pow se_int se_int) sa_nil)))) sa_nil)))))))
      (ss_cons (ss_set (i := 1) sc__law_by_hand_right.nd (se_dat (sl_add (se_var 1) (se_dat (sl_lst (sa_cons (se_call (w_most_share T) (hr.mono (by decide)) (sa_cons (se_var 0) (sa_cons (se_op od_pow se_int se_int) (sa_cons (se_op od_pow se_int se_int) sa_nil)))) (sa_cons (se_call (w_least_share T) (hr.mono (by decide)) (sa_cons (se_var 0) (sa_cons (se_op od_pow se_int se_int) (sa_cons (se_op od_pow se_int se_int) sa_nil)))) sa_nil)))))))
      (ss_one (ss_ret (se_call (w__law_same T 16) (hr.mono (by decide)) (sa_cons (se_var 1) (sa_cons (se_dat (sl_add (se_var 2) (se_dat (sl_lst (sa_cons (se_op od_pow se_int se_int) (sa_cons se_non (sa_cons (se_tup (sa_cons se_int (sa_cons se_int sa_nil))) (sa_cons (se_tup (sa_cons (se_un ud_neg se_int) (sa_cons se_int sa_nil))) sa_nil)))))))) sa_nil))))))))))))))))
abbrev N__law_right : List Str := ["_law_box_here", "_law_turn", "_law_all_so"]
theorem sc__law_right : FnScope N__law_right ["_law_box_here"] (defScope (topS 24)) := ⟨rfl, rfl, rfl, by decide +kernel, rfl, by decide +kernel, by decide +kernel⟩
def p1__law_right : MS := (mSeq (mSet 2 (mBin dAddA (mC (.int 1)) (mCallR 0 (fun ds xs => chk (ds.length + 1 = 2) (m__law_take ds xs)) (mCons (mVar 0) (mCons (mC (.int 9)) mNil)))))
    (mIfS (mNotT (mTst (mCall (fun ds => chk (ds.length = 3) (m__law_case_right ds)) (mCons (mVar 2) (mCons (mCallR 0 (fun ds xs => chk (ds.length + 1 = 2) (m__law_take ds xs)) (mCons (mVar 0) (mCons (mBin dAddA (mVar 2) (mC (.int 1))) mNil))) (mCons (mCallR 0 (fun ds xs => chk (ds.length + 1 = 2) (m__law_take ds xs)) (mCons (mVar 0) (mCons (mBin dAddA (mVar 2) (mC (.int 1))) mNil))) mNil))))))
    (mRet (mC (.bool false)))
    mNext))
def mb__law_right : MS := (mSeq (mFor (mRange1 (mC (.int 6))) (gN 1)
    p1__law_right)
    (mRet (mC (.bool true))))
def m__law_right : List PyData → List PyData → R (PyData × List PyData) := bodyR 3 0 mb__law_right
theorem w__law_right (T : Txt K mg) : Kn P w K mg base 18 "_law_right" (topS 24) ["_law_box_here"] (SpR (tri P w K) 1 0 m__law_right) := by
  refine kn_ref (k := 17) T.d__law_right sc__law_right rfl (by decide) (by decide) (m := mb__law_right) (fun _ _ _ _ _ _ us hl => match us, hl with | [_], _ => rfl) (fun f cdv A outer s H E hr => ?_)
  have c := cxo_of (P := P) (w := w) (K := K) (mg := mg) (base := base) (N := N__law_right) (outer := outer) (H := H) (E := E) hr
  exact (ss_cons (ss_for c PassesOwn.never (si_range1 T.b_range se_int) (sg_name sc__law_right.nd)
      (ss_cons (ss_set (i := 2) sc__law_right.nd (se_op od_addA se_int (se_callR (w__law_take T) (hr.mono (by decide)) (sa_cons (se_var 0) (sa_cons se_int sa_nil)))))
      (ss_one (ss_if (st_not (st_val (se_call (w__law_case_right T) (hr.mono (by decide)) (sa_cons (se_var 2) (sa_cons (se_callR (w__law_take T) (hr.mono (by decide)) (sa_cons (se_var 0) (sa_cons (se_op od_addA (se_var 2) se_int) sa_nil))) (sa_cons (se_callR (w__law_take T) (hr.mono (by decide)) (sa_cons (se_var 0) (sa_cons (se_op od_addA (se_var 2) se_int) sa_nil))) sa_nil))))))
      (ss_one (ss_ret se_bl))
      ss_nil))))
      (ss_one (ss_ret se_bl)))
abbrev N_law : List Str := ["_law_script", "_law_cells_here", "_law_k"]
theorem sc_law : FnScope N_law ["_law_script"] (defScope (topS 25)) := ⟨rfl, rfl, rfl, by decide +kernel, rfl, by decide +kernel, by decide +kernel⟩
def p1_law : M Hd := (mCallN m__law_right (mCallL (fun ds => chk (ds.length = 2) (m__law_box ds)) (mCons (mVar 1) (mCons (mVar 2) mNil))))
def mb_law : MS := (mSeq (mIfS (mNotT (mTst (mCall0 m__law_by_hand_right)))
    (mRet (mC (.bool false)))
    mNext)
    (mSeq (mSet 1 (mCall (fun ds => chk (ds.length = 2) (m__law_cells ds)) (mCons (mVar 0) (mCons (mC (.int 3)) mNil))))
    (mRet (mB gAll (mCons (mDat (mLc (mRange1 (mB gLen (mCons (mVar 1) mNil))) (gN 2) mYes p1_law [2])) mNil)))))
def m_law : List PyData → R PyData := bodyOf 3 mb_law
theorem w_law (T : Txt K mg) : Kn P w K mg base 19 "law" (topS 25) ["_law_script"] (SpP (tri P w K) 1 m_law) := by
  refine kn_pure (k := 18) T.d_law sc_law rfl (by decide) (m := mb_law) (fun _ _ _ _ _ _ us hl => match us, hl with | [_], _ => rfl) (fun f cdv A outer s H E hr => ?_)
  have c := cxo_of (P := P) (w := w) (K := K) (mg := mg) (base := base) (N := N_law) (outer := outer) (H := H) (E := E) hr
  exact (ss_cons (ss_if (st_not (st_val (se_call0 (w__law_by_hand_right T) (hr.mono (by decide)))))
      (ss_one (ss_ret se_bl))
      ss_nil)
      (ss_cons (ss_set (i := 1) sc_law.nd (se_call (w__law_cells T) (hr.mono (by decide)) (sa_cons (se_var 0) (sa_cons se_int sa_nil))))
      (ss_one (ss_ret (se_b (cd_all c) T.b_all bt_all (sa_cons (se_dat (slc (own := [("_law_k", 2)]) c sc_law.nd (si_range1 T.b_range (se_b cd_len T.b_len bt_len (sa_cons (se_var 1) sa_nil))) (blkOk_by (N := N_law) (sc := defScope (topS 25)) (by decide +kernel)) (fun _ _ _ _ _ => (sg_name sc_law.nd)) (fun _ _ _ _ _ => sts_nil) (fun _ _ _ _ _ => (se_callN (w__law_right T) (hr.mono (by decide)) (sl_call (w__law_box T) (hr.mono (by decide)) (sa_cons (se_var 1) (sa_cons (se_var 2) sa_nil))))))) sa_nil))))))
end
end FM
/-! what nearly all laws share: the box of draws, the cells -/
namespace FM
open PySem PySem.Spec PyProof.Rows L2 Evl
def Box (n : Nat) (xs : List PyData) : Prop := ∃ b0 b1 c : Int, xs = [.int b0, .int b1, .int c] ∧ 0 ≤ b0 ∧ 0 ≤ b1 ∧ b1 < 2 ^ 62 ∧ 0 ≤ c ∧ c ≤ n
theorem Box.mono {n m : Nat} {xs : List PyData} (B : Box n xs) (h : n ≤ m) : Box m xs := by
  obtain ⟨b0, b1, c, rfl, h0, h1, h3, h4, h5⟩ := B
  exact ⟨b0, b1, c, rfl, h0, h1, h3, h4, by omega⟩
theorem take_ok {top : Int} (h : 1 ≤ top) (h2 : top < 2 ^ 62) {n : Nat} (hn : n < 2 ^ 40) {xs : List PyData} (B : Box n xs) : ∃ d xs', m__law_take [.int top] xs = .ok (.int d, xs') ∧ 0 ≤ d ∧ d < top ∧ Box (n + 1) xs' := by
  obtain ⟨b0, b1, c, rfl, h0, h1, h3, h4, h5⟩ := B
  have ht : ¬ top = 0 := by omega
  by_cases hb : 0 < b0
  · simp (dsimp := false) (implicitDefEqProofs := false) [m__law_take, mb__law_take, dIx, atI, ixN, hb, ht, okDiv_of h (show top < 2 ^ 64 by omega)]
    obtain ⟨f1, f2⟩ := fmod_pos (a := b0) h
    obtain ⟨f3, f4⟩ := fdiv_pos h h0
    exact ⟨_, _, ⟨rfl, rfl⟩, f1, f2, _, _, _, rfl, f3, h1, h3, h4, by omega⟩
  · have k1 : okMul 48271 (c + 1) = true := okMul_l (by decide) (by decide)
    have k2 : ∀ x, okMul x (39373 + (c + 1)) = true := fun x => okMul_r (by omega) (by omega)
    have k3 : okDiv 1000003 = true := okDiv_of (by decide) (by decide)
    have k4 : okDiv 64 = true := okDiv_of (by decide) (by decide)
    have k5 : ∀ x y : Int, okMul y (x.fmod 40009 + 7) = true := fun x y => by
      have := fmod_pos (a := x) (b := 40009) (by decide)
      exact okMul_r (by omega) (by omega)
    have k6 : ∀ x, okMul x 48271 = true := fun x => okMul_r (by decide) (by decide)
    simp (dsimp := false) (implicitDefEqProofs := false) [m__law_take, mb__law_take, dIx, atI, ixN, hb, ht, k1, k2, k3, k4, k5, k6]
    exact ⟨_, _, ⟨rfl, rfl⟩, (fmod_pos h).1, (fmod_pos h).2, _, _, _, rfl, h0, h1, h3, by omega, by omega⟩
theorem dIx_nat {xs : List PyData} {k : Nat} {d : PyData} (h : xs[k]? = some d) : dIx (.list xs) (.int (k : Int)) = .ok d := by
  have hk : k < xs.length := (List.getElem?_eq_some_iff.mp h).1
  have h1 : (0 : Int) ≤ (k : Int) := by omega
  have h2 : (k : Int) < (xs.length : Int) := by omega
  simp [dIx, atI, ixN, h1, h2, h]
theorem dIxT_nat {xs : List PyData} {k : Nat} {d : PyData} (h : xs[k]? = some d) : dIx (.tuple xs) (.int (k : Int)) = .ok d := by
  have hk : k < xs.length := (List.getElem?_eq_some_iff.mp h).1
  have h1 : (0 : Int) ≤ (k : Int) := by omega
  have h2 : (k : Int) < (xs.length : Int) := by omega
  simp [dIx, atI, ixN, h1, h2, h]
theorem pow18 : dPow (.int 10) (.int 18) = .ok (.int 1000000000000000000) := rfl
theorem gLen_list (xs : List PyData) : gLen [.list xs] = .ok (.int xs.length) := rfl
theorem gLen_tuple (xs : List PyData) : gLen [.tuple xs] = .ok (.int xs.length) := rfl
theorem box_ok {cs : List Int} {k : Nat} (hk : k < cs.length) (h3 : k ≤ 3) : ∃ xs, m__law_box [.list (cs.map .int), .int (k : Int)] = .ok xs ∧ Box 0 xs := by
  have hg : (cs.map PyData.int)[k]? = some (.int cs[k]) := by rw [List.getElem?_map, List.getElem?_eq_getElem hk]; rfl
  have hlt : (k : Int) < (cs.length : Int) := by omega
  generalize cs[k] = g at hg
  have k1 : okMul 39373 (k : Int) = true := okMul_l (by decide) (by decide)
  have k2 : ∀ (x : Int) (p : Prop) [Decidable p], okMul x (if p then 1 else 0) = true := fun x p _ => by
    by_cases hp : p
    · rw [if_pos hp]
      exact okMul_r (by decide) (by decide)
    · rw [if_neg hp]
      exact okMul_r (by decide) (by decide)
  simp (dsimp := false) (implicitDefEqProofs := false) [m__law_box, mb__law_box, gLen_list, hlt, dIx_nat hg, pow18, k1, k2, big]
  refine ⟨_, _, _, rfl, ?_, ?_, ?_, by omega, by omega⟩
  · refine Int.mul_nonneg ?_ ?_
    · split <;> omega
    · split <;> omega
  · have := fmod_pos (a := g) (b := 2305843009213693951) (by decide)
    omega
  · have := fmod_pos (a := g) (b := 2305843009213693951) (by decide)
    omega
theorem cut_map {ns : List Int} {lo hi : Option Int} : cutL (ns.map PyData.int) lo hi = (cutL ns lo hi).map PyData.int := by
  unfold cutL
  rw [List.length_map, ← List.map_drop, ← List.map_take]
def CellsI (m : Nat) (s : Option Sv) (ρ : Ro) : Prop := ∃ (cs : List Int) (x3 x4 x5 : Option Sv), ρ = [s, some (.fz (.int (m : Int))), some (.ls .own (cs.map .int)), x3, x4, x5] ∧ cs.length = m ∧ Pl x3 ∧ Pl x4 ∧ Pl x5
theorem cells_step {m : Nat} (h1 : 1 ≤ m) {s : Option Sv} {k z : Int} (h3 : 0 ≤ k) (h4 : k < 2 ^ 60) {ρ : Ro} (h : CellsI m s ρ) : ∃ f ρ2, (gT 2 (gsC (gN 3) (gsC (gN 4) gsN)) (.tuple [.int k, .int z]) ρ).bind (fun ρ1 => p1__law_cells ρ1) = .ok (f, ρ2) ∧ (f = .nx ∨ f = .ct) ∧ CellsI m s ρ2 := by
  obtain ⟨cs, x3, x4, x5, rfl, hc, p3, p4, p5⟩ := h
  have hm : ¬ m = 0 := by omega
  obtain ⟨f1, f2⟩ := fmod_pos (a := k) (b := (m : Int)) (by omega)
  obtain ⟨j, hj⟩ : ∃ j : Nat, k.fmod m = (j : Int) := ⟨(k.fmod m).toNat, by omega⟩
  have hj2 : j < cs.length := by omega
  have hg : (cs.map PyData.int)[j]? = some (.int cs[j]) := by rw [List.getElem?_map, List.getElem?_eq_getElem hj2]; rfl
  have k1 : okMul z (k + 2) = true := okMul_r (by omega) (by omega)
  have hx : ixN (cs.map PyData.int).length (j : Int) = some j := by
    unfold ixN
    rw [if_pos (by omega), if_pos (by rw [List.length_map]; omega)]
    rfl
  have hx2 : ixN cs.length (j : Int) = some j := by rw [List.length_map] at hx; exact hx
  have fin : ∀ y3 y4 y5, Pl y3 → Pl y4 → Pl y5 → CellsI m s [s, some (.fz (.int (m : Int))), some (.ls .own ((cs.map PyData.int).set j (.int (cs[j] + z * (k + 2))))), y3, y4, y5] := fun y3 y4 y5 q3 q4 q5 =>
    ⟨cs.set j (cs[j] + z * (k + 2)), y3, y4, y5, by rw [List.map_set], by rw [List.length_set]; exact hc, q3, q4, q5⟩
  rcases p3 with rfl | ⟨d3, rfl⟩ <;> rcases p4 with rfl | ⟨d4, rfl⟩ <;> rcases p5 with rfl | ⟨d5, rfl⟩ <;> simp (dsimp := false) (implicitDefEqProofs := false) [p1__law_cells, hm, hj, dIx_nat hg, k1, hx2] <;> exact ⟨_, _, ⟨rfl, rfl⟩, .inl rfl, fin _ _ _ Pl.fz Pl.fz Pl.fz⟩
theorem cut_take {α : Type} (ns : List α) (m : Nat) : cutL ns none (some (m : Int)) = ns.take m := by
  unfold cutL
  rw [HT.sIx_none, HT.sIx_nat, List.drop_zero, Nat.sub_zero]
  by_cases h : m ≤ ns.length
  · rw [Nat.min_eq_left h]
  · rw [Nat.min_eq_right (by omega), List.take_of_length_le (Nat.le_refl _), List.take_of_length_le (by omega)]
theorem cut_drop {α : Type} (ns : List α) (m : Nat) : cutL ns (some (m : Int)) none = ns.drop m := by
  unfold cutL
  rw [HT.sIx_none, HT.sIx_nat]
  by_cases h : m ≤ ns.length
  · rw [Nat.min_eq_left h, List.take_of_length_le (by rw [List.length_drop]; omega)]
  · rw [Nat.min_eq_right (by omega), List.drop_length, List.take_nil, List.drop_eq_nil_of_le (by omega)]
theorem cut_take1 {α : Type} (ns : List α) (m : Nat) : cutL ns none (some ((m : Int) + 1)) = ns.take (m + 1) := cut_take ns (m + 1)
theorem cut_drop1 {α : Type} (ns : List α) (m : Nat) : cutL ns (some ((m : Int) + 1)) none = ns.drop (m + 1) := cut_drop ns (m + 1)
theorem cells_ok {ns : List Int} {m : Nat} (h1 : 1 ≤ m) (h2 : m ≤ 4) (h63 : ns.length ≤ 63) : ∃ cs : List Int, m__law_cells [.list (ns.map .int), .int (m : Int)] = .ok (.list (cs.map .int)) ∧ 1 ≤ cs.length ∧ cs.length ≤ m := by
  have hA : cutL (ns.map PyData.int) none (some (m : Int)) = (ns.take m).map PyData.int := by rw [cut_map, cut_take]
  have hB2 : cutL (ns.map PyData.int) (some (m : Int)) (some 63) = (cutL ns (some (m : Int)) (some 63)).map PyData.int := cut_map
  by_cases hl : ns.length ≤ m
  · have hB : cutL ns (some (m : Int)) (some 63) = [] := by
      unfold cutL
      rw [HT.sIx_nat, Nat.min_eq_right hl, List.drop_length, List.take_nil]
    cases hns : ns.take m with
    | nil =>
      refine ⟨[0], ?_, Nat.le_refl _, h1⟩
      simp (dsimp := false) (implicitDefEqProofs := false) [m__law_cells, mb__law_cells, dCut, hA, hB2, gList, hns, hB, numbered, loopD, big]
    | cons a r =>
      refine ⟨a :: r, ?_, by simp, by rw [← hns, List.length_take]; omega⟩
      simp (dsimp := false) (implicitDefEqProofs := false) [m__law_cells, mb__law_cells, dCut, hA, hB2, gList, hns, hB, numbered, loopD, big]
  · have hlen : (ns.take m).length = m := by rw [List.length_take]; omega
    obtain ⟨ρ', e1, cs, x3, x4, x5, rfl, hc, _⟩ := loop_inv (b := p1__law_cells) (g := gT 2 (gsC (gN 3) (gsC (gN 4) gsN))) (CellsI m (some (.fz (.list (ns.map .int))))) (numbered ((cutL ns (some (m : Int)) (some 63)).map .int)) (fun d hd ρ hI => by
      obtain ⟨i, x, hi, rfl⟩ := numbered_mem hd
      rw [List.getElem?_map] at hi
      cases q : (cutL ns (some (m : Int)) (some 63))[i]? with
      | none => rw [q] at hi; cases hi
      | some z =>
        rw [q] at hi
        cases hi
        have hi2 := (List.getElem?_eq_some_iff.mp q).1
        have : (cutL ns (some (m : Int)) (some 63)).length ≤ 63 := by
          unfold cutL
          rw [List.length_take, List.length_drop]
          omega
        exact cells_step h1 (by omega) (by omega) hI) [some (.fz (.list (ns.map .int))), some (.fz (.int (m : Int))), some (.ls .own ((ns.take m).map .int)), none, none, none] ⟨ns.take m, none, none, none, rfl, hlen, Pl.non, Pl.non, Pl.non⟩
    refine ⟨cs, ?_, by omega, by omega⟩
    cases hns : ns.take m with
    | nil =>
      rw [hns] at hlen
      simp at hlen
      omega
    | cons a r =>
      rw [hns, List.map_cons] at e1
      simp (dsimp := false) (implicitDefEqProofs := false) [m__law_cells, mb__law_cells, dCut, hA, hB2, gList, hns, e1]
theorem right_box {P : List PyData → List PyData → R (PyData × List PyData)} (h : ∀ xs, Box 0 xs → ∃ ys, P [] xs = .ok (.bool true, ys)) {cs : List Int} {k : Nat} (hk : k < cs.length) (h4 : cs.length ≤ 4) :
    ∃ bs ys, m__law_box [.list (cs.map .int), .int (k : Int)] = .ok bs ∧ P [] bs = .ok (.bool true, ys) := by
  obtain ⟨bs, e1, e2⟩ := box_ok hk (by omega)
  obtain ⟨ys, e3⟩ := h bs e2
  exact ⟨bs, ys, e1, e3⟩
/-- all([right(box(cells, k)) for k in range(len(cells))]), the cells in slot 1 -/
theorem all_cells {p : M Hd} {s : Option Sv} {cs : List Int} (h4 : cs.length ≤ 4) (hp : ∀ k : Nat, k < cs.length → p [s, some (.fz (.list (cs.map .int))), some (.fz (.int (k : Int)))] = .ok (.dat (.bool true), [s, some (.fz (.list (cs.map .int))), some (.fz (.int (k : Int)))])) :
    mB gAll (mCons (mDat (mLc (mRange1 (mB gLen (mCons (mVar 1) mNil))) (gN 2) mYes p [2])) mNil) [s, some (.fz (.list (cs.map .int))), none] = .ok (.dat (.bool true), [s, some (.fz (.list (cs.map .int))), none]) := by
  obtain ⟨zs, ρ', e4, e0, e5, e6⟩ := comp_inv (g := gN 2) (e := p) (vs := [2]) (fun ρ => ρ = [s, some (.fz (.list (cs.map .int))), none]) (fun _ z => z = .bool true) (upFrom 0 cs.length) (fun d hd ρ hI => by
    obtain ⟨k, hk, rfl⟩ := upFrom_mem hd
    subst hI
    rw [Int.zero_add]
    simp (dsimp := false) (implicitDefEqProofs := false) [hp k hk]
    exact ⟨_, _, ⟨rfl, rfl⟩, rfl, rfl⟩) _ rfl
  have hr : okRange (cs.length : Int) = true := okRange_iff.mpr (by omega)
  have hz : gAll [.list zs] = .ok (.bool true) := allB fun z hz => by
    obtain ⟨i, hi⟩ := List.mem_iff_getElem?.mp hz
    have hlt := (List.getElem?_eq_some_iff.mp hi).1
    exact e6 i _ z (List.getElem?_eq_getElem (by omega)) hi
  have hn : (upFrom 0 cs.length).length ≤ big := by
    simp [upFrom, big]
    omega
  simp (dsimp := false) (implicitDefEqProofs := false) [gLen_list, hr, e4, hz, hn, e0]
/-- the law's shape, first one: by hand, then each cell -/
theorem law_shape1 {hand cells : List PyData → R PyData} {p : M Hd} {most : Int} {d : PyData} {cs : List Int} (h1 : hand [] = .ok (.bool true)) (h2 : cells [d, .int most] = .ok (.list (cs.map .int))) (h4 : cs.length ≤ 4)
    (hp : ∀ k : Nat, k < cs.length → p [some (.fz d), some (.fz (.list (cs.map .int))), some (.fz (.int (k : Int)))] = .ok (.dat (.bool true), [some (.fz d), some (.fz (.list (cs.map .int))), some (.fz (.int (k : Int)))])) :
    bodyOf 3 (mSeq (mIfS (mNotT (mTst (mCall0 hand))) (mRet (mC (.bool false))) mNext) (mSeq (mSet 1 (mCall (fun ds => chk (ds.length = 2) (cells ds)) (mCons (mVar 0) (mCons (mC (.int most)) mNil))))
      (mRet (mB gAll (mCons (mDat (mLc (mRange1 (mB gLen (mCons (mVar 1) mNil))) (gN 2) mYes p [2])) mNil))))) [d] = .ok (.bool true) := by
  have q := all_cells (s := some (.fz d)) h4 hp
  generalize mB gAll (mCons (mDat (mLc (mRange1 (mB gLen (mCons (mVar 1) mNil))) (gN 2) mYes p [2])) mNil) = Z at q
  simp (dsimp := false) (implicitDefEqProofs := false) [h1, h2, q]
/-- the second: no part by hand -/
theorem law_shape2 {cells : List PyData → R PyData} {p : M Hd} {most : Int} {d : PyData} {cs : List Int} (h2 : cells [d, .int most] = .ok (.list (cs.map .int))) (h4 : cs.length ≤ 4)
    (hp : ∀ k : Nat, k < cs.length → p [some (.fz d), some (.fz (.list (cs.map .int))), some (.fz (.int (k : Int)))] = .ok (.dat (.bool true), [some (.fz d), some (.fz (.list (cs.map .int))), some (.fz (.int (k : Int)))])) :
    bodyOf 3 (mSeq (mSet 1 (mCall (fun ds => chk (ds.length = 2) (cells ds)) (mCons (mVar 0) (mCons (mC (.int most)) mNil))))
      (mRet (mB gAll (mCons (mDat (mLc (mRange1 (mB gLen (mCons (mVar 1) mNil))) (gN 2) mYes p [2])) mNil)))) [d] = .ok (.bool true) := by
  have q := all_cells (s := some (.fz d)) h4 hp
  generalize mB gAll (mCons (mDat (mLc (mRange1 (mB gLen (mCons (mVar 1) mNil))) (gN 2) mYes p [2])) mNil) = Z at q
  simp (dsimp := false) (implicitDefEqProofs := false) [h2, q]
theorem right_at {right : List PyData → List PyData → R (PyData × List PyData)} {s : Option Sv} {cs : List Int} {k : Nat} (hr : ∀ xs, Box 0 xs → ∃ ys, right [] xs = .ok (.bool true, ys)) (hk : k < cs.length) (h4 : cs.length ≤ 4) :
    mCallN right (mCallL (fun ds => chk (ds.length = 2) (m__law_box ds)) (mCons (mVar 1) (mCons (mVar 2) mNil))) [s, some (.fz (.list (cs.map .int))), some (.fz (.int (k : Int)))] = .ok (.dat (.bool true), [s, some (.fz (.list (cs.map .int))), some (.fz (.int (k : Int)))]) := by
  obtain ⟨bs, ys, f1, f2⟩ := right_box hr hk h4
  simp (dsimp := false) (implicitDefEqProofs := false) [f1, f2]
end FM
namespace FM
open PySem PySem.Spec PyProof.Rows L2 Evl
set_option maxHeartbeats 0 in
theorem hand_ok : m__law_by_hand_right [] = .ok (.bool true) := R.of_yes (by decide +kernel)
def row (n i : Nat) : Bool := (List.range (n + 1)).all fun j => (m__law_case_right [.int (n : Int), .int (i : Int), .int (j : Int)]).yes
set_option maxHeartbeats 0 in
theorem c_1_0 : row 1 0 = true := by decide +kernel
set_option maxHeartbeats 0 in
theorem c_1_1 : row 1 1 = true := by decide +kernel
set_option maxHeartbeats 0 in
theorem c_2_0 : row 2 0 = true := by decide +kernel
set_option maxHeartbeats 0 in
theorem c_2_1 : row 2 1 = true := by decide +kernel
set_option maxHeartbeats 0 in
theorem c_2_2 : row 2 2 = true := by decide +kernel
set_option maxHeartbeats 0 in
theorem c_3_0 : row 3 0 = true := by decide +kernel
set_option maxHeartbeats 0 in
theorem c_3_1 : row 3 1 = true := by decide +kernel
set_option maxHeartbeats 0 in
theorem c_3_2 : row 3 2 = true := by decide +kernel
set_option maxHeartbeats 0 in
theorem c_3_3 : row 3 3 = true := by decide +kernel
set_option maxHeartbeats 0 in
theorem c_4_0 : row 4 0 = true := by decide +kernel
set_option maxHeartbeats 0 in
theorem c_4_1 : row 4 1 = true := by decide +kernel
set_option maxHeartbeats 0 in
theorem c_4_2 : row 4 2 = true := by decide +kernel
set_option maxHeartbeats 0 in
theorem c_4_3 : row 4 3 = true := by decide +kernel
set_option maxHeartbeats 0 in
theorem c_4_4 : row 4 4 = true := by decide +kernel
set_option maxHeartbeats 0 in
theorem c_5_0 : row 5 0 = true := by decide +kernel
set_option maxHeartbeats 0 in
theorem c_5_1 : row 5 1 = true := by decide +kernel
set_option maxHeartbeats 0 in
theorem c_5_2 : row 5 2 = true := by decide +kernel
set_option maxHeartbeats 0 in
theorem c_5_3 : row 5 3 = true := by decide +kernel
set_option maxHeartbeats 0 in
theorem c_5_4 : row 5 4 = true := by decide +kernel
set_option maxHeartbeats 0 in
theorem c_5_5 : row 5 5 = true := by decide +kernel
set_option maxHeartbeats 0 in
theorem c_6_0 : row 6 0 = true := by decide +kernel
set_option maxHeartbeats 0 in
theorem c_6_1 : row 6 1 = true := by decide +kernel
set_option maxHeartbeats 0 in
theorem c_6_2 : row 6 2 = true := by decide +kernel
set_option maxHeartbeats 0 in
theorem c_6_3 : row 6 3 = true := by decide +kernel
set_option maxHeartbeats 0 in
theorem c_6_4 : row 6 4 = true := by decide +kernel
set_option maxHeartbeats 0 in
theorem c_6_5 : row 6 5 = true := by decide +kernel
set_option maxHeartbeats 0 in
theorem c_6_6 : row 6 6 = true := by decide +kernel
set_option maxHeartbeats 0 in
theorem c_7_0 : row 7 0 = true := by decide +kernel
set_option maxHeartbeats 0 in
theorem c_7_1 : row 7 1 = true := by decide +kernel
set_option maxHeartbeats 0 in
theorem c_7_2 : row 7 2 = true := by decide +kernel
set_option maxHeartbeats 0 in
theorem c_7_3 : row 7 3 = true := by decide +kernel
set_option maxHeartbeats 0 in
theorem c_7_4 : row 7 4 = true := by decide +kernel
set_option maxHeartbeats 0 in
theorem c_7_5 : row 7 5 = true := by decide +kernel
set_option maxHeartbeats 0 in
theorem c_7_6 : row 7 6 = true := by decide +kernel
set_option maxHeartbeats 0 in
theorem c_7_7 : row 7 7 = true := by decide +kernel
set_option maxHeartbeats 0 in
theorem c_8_0 : row 8 0 = true := by decide +kernel
set_option maxHeartbeats 0 in
theorem c_8_1 : row 8 1 = true := by decide +kernel
set_option maxHeartbeats 0 in
theorem c_8_2 : row 8 2 = true := by decide +kernel
set_option maxHeartbeats 0 in
theorem c_8_3 : row 8 3 = true := by decide +kernel
set_option maxHeartbeats 0 in
theorem c_8_4 : row 8 4 = true := by decide +kernel
set_option maxHeartbeats 0 in
theorem c_8_5 : row 8 5 = true := by decide +kernel
set_option maxHeartbeats 0 in
theorem c_8_6 : row 8 6 = true := by decide +kernel
set_option maxHeartbeats 0 in
theorem c_8_7 : row 8 7 = true := by decide +kernel
set_option maxHeartbeats 0 in
theorem c_8_8 : row 8 8 = true := by decide +kernel
set_option maxHeartbeats 0 in
theorem c_9_0 : row 9 0 = true := by decide +kernel
set_option maxHeartbeats 0 in
theorem c_9_1 : row 9 1 = true := by decide +kernel
set_option maxHeartbeats 0 in
theorem c_9_2 : row 9 2 = true := by decide +kernel
set_option maxHeartbeats 0 in
theorem c_9_3 : row 9 3 = true := by decide +kernel
set_option maxHeartbeats 0 in
theorem c_9_4 : row 9 4 = true := by decide +kernel
set_option maxHeartbeats 0 in
theorem c_9_5 : row 9 5 = true := by decide +kernel
set_option maxHeartbeats 0 in
theorem c_9_6 : row 9 6 = true := by decide +kernel
set_option maxHeartbeats 0 in
theorem c_9_7 : row 9 7 = true := by decide +kernel
set_option maxHeartbeats 0 in
theorem c_9_8 : row 9 8 = true := by decide +kernel
set_option maxHeartbeats 0 in
theorem c_9_9 : row 9 9 = true := by decide +kernel
theorem rows : ∀ (n i : Nat), 1 ≤ n → n ≤ 9 → i ≤ n → row n i = true
  | 0, _, h, _, _ => absurd h (by omega)
  | 1, 0, _, _, _ => c_1_0
  | 1, 1, _, _, _ => c_1_1
  | 1, i + 2, _, _, h => absurd h (by omega)
  | 2, 0, _, _, _ => c_2_0
  | 2, 1, _, _, _ => c_2_1
  | 2, 2, _, _, _ => c_2_2
  | 2, i + 3, _, _, h => absurd h (by omega)
  | 3, 0, _, _, _ => c_3_0
  | 3, 1, _, _, _ => c_3_1
  | 3, 2, _, _, _ => c_3_2
  | 3, 3, _, _, _ => c_3_3
  | 3, i + 4, _, _, h => absurd h (by omega)
  | 4, 0, _, _, _ => c_4_0
  | 4, 1, _, _, _ => c_4_1
  | 4, 2, _, _, _ => c_4_2
  | 4, 3, _, _, _ => c_4_3
  | 4, 4, _, _, _ => c_4_4
  | 4, i + 5, _, _, h => absurd h (by omega)
  | 5, 0, _, _, _ => c_5_0
  | 5, 1, _, _, _ => c_5_1
  | 5, 2, _, _, _ => c_5_2
  | 5, 3, _, _, _ => c_5_3
  | 5, 4, _, _, _ => c_5_4
  | 5, 5, _, _, _ => c_5_5
  | 5, i + 6, _, _, h => absurd h (by omega)
  | 6, 0, _, _, _ => c_6_0
  | 6, 1, _, _, _ => c_6_1
  | 6, 2, _, _, _ => c_6_2
  | 6, 3, _, _, _ => c_6_3
  | 6, 4, _, _, _ => c_6_4
  | 6, 5, _, _, _ => c_6_5
  | 6, 6, _, _, _ => c_6_6
  | 6, i + 7, _, _, h => absurd h (by omega)
  | 7, 0, _, _, _ => c_7_0
  | 7, 1, _, _, _ => c_7_1
  | 7, 2, _, _, _ => c_7_2
  | 7, 3, _, _, _ => c_7_3
  | 7, 4, _, _, _ => c_7_4
  | 7, 5, _, _, _ => c_7_5
  | 7, 6, _, _, _ => c_7_6
  | 7, 7, _, _, _ => c_7_7
  | 7, i + 8, _, _, h => absurd h (by omega)
  | 8, 0, _, _, _ => c_8_0
  | 8, 1, _, _, _ => c_8_1
  | 8, 2, _, _, _ => c_8_2
  | 8, 3, _, _, _ => c_8_3
  | 8, 4, _, _, _ => c_8_4
  | 8, 5, _, _, _ => c_8_5
  | 8, 6, _, _, _ => c_8_6
  | 8, 7, _, _, _ => c_8_7
  | 8, 8, _, _, _ => c_8_8
  | 8, i + 9, _, _, h => absurd h (by omega)
  | 9, 0, _, _, _ => c_9_0
  | 9, 1, _, _, _ => c_9_1
  | 9, 2, _, _, _ => c_9_2
  | 9, 3, _, _, _ => c_9_3
  | 9, 4, _, _, _ => c_9_4
  | 9, 5, _, _, _ => c_9_5
  | 9, 6, _, _, _ => c_9_6
  | 9, 7, _, _, _ => c_9_7
  | 9, 8, _, _, _ => c_9_8
  | 9, 9, _, _, _ => c_9_9
  | 9, i + 10, _, _, h => absurd h (by omega)
  | n + 10, _, _, h, _ => absurd h (by omega)
theorem case_ok {n i j : Int} (h1 : 1 ≤ n) (h2 : n ≤ 9) (h3 : 0 ≤ i) (h4 : i < n + 1) (h5 : 0 ≤ j) (h6 : j < n + 1) : m__law_case_right [.int n, .int i, .int j] = .ok (.bool true) := by
  have h := rows n.toNat i.toNat (by omega) (by omega) (by omega)
  unfold row at h
  have b := List.all_eq_true.mp h j.toNat (List.mem_range.mpr (by omega))
  have e1 : ((n.toNat : Nat) : Int) = n := by omega
  have e2 : ((i.toNat : Nat) : Int) = i := by omega
  have e3 : ((j.toNat : Nat) : Int) = j := by omega
  rw [e1, e2, e3] at b
  exact R.of_yes b
def RtI (i : Nat) (ρ : Ro) : Prop := ∃ bs x1 x2, ρ = [some (.ls .rf bs), x1, x2] ∧ Box (3 * i) bs ∧ Pl x1 ∧ Pl x2
theorem right_step {i : Nat} (hi : i < 100) {d : PyData} {ρ : Ro} (h : RtI i ρ) : ∃ f ρ2, (gN 1 d ρ).bind (fun ρ1 => p1__law_right ρ1) = .ok (f, ρ2) ∧ (f = .nx ∨ f = .ct) ∧ RtI (i + 1) ρ2 := by
  obtain ⟨bs, x1, x2, rfl, B, p1, p2⟩ := h
  obtain ⟨a, b1, t1, l1, u1, B1⟩ := take_ok (top := 9) (by decide) (by decide) (by omega) B
  obtain ⟨o, b2, t2, l2, u2, B2⟩ := take_ok (top := 1 + a + 1) (by omega) (by omega) (by omega) B1
  obtain ⟨w, b3, t3, l3, u3, B3⟩ := take_ok (top := 1 + a + 1) (by omega) (by omega) (by omega) B2
  have e := case_ok (n := 1 + a) (i := o) (j := w) (by omega) (by omega) l2 (by omega) l3 (by omega)
  have fin : ∀ y1 y2, Pl y1 → Pl y2 → RtI (i + 1) [some (.ls .rf b3), y1, y2] := fun y1 y2 q1 q2 => ⟨_, _, _, rfl, B3.mono (by omega), q1, q2⟩
  rcases p1 with rfl | ⟨d1, rfl⟩ <;> rcases p2 with rfl | ⟨d2, rfl⟩ <;> simp (dsimp := false) (implicitDefEqProofs := false) [p1__law_right, t1, t2, t3, e] <;> exact ⟨_, _, ⟨rfl, rfl⟩, .inl rfl, fin _ _ Pl.fz Pl.fz⟩
theorem right_ok (xs : List PyData) (B : Box 0 xs) : ∃ ys, m__law_right [] xs = .ok (.bool true, ys) := by
  obtain ⟨ρ', e1, bs, x1, x2, rfl, _⟩ := loop_invN (g := gN 1) (b := p1__law_right) RtI (upFrom 0 6) 0 (fun i d hd ρ hI => by
    have hi := (List.getElem?_eq_some_iff.mp hd).1
    simp [upFrom] at hi
    exact right_step (by omega) hI) [some (.ls .rf xs), none, none] ⟨_, _, _, rfl, B, Pl.non, Pl.non⟩
  have hr : okRange 6 = true := by decide
  have h6 : Int.toNat 6 = 6 := rfl
  refine ⟨bs, ?_⟩
  simp (dsimp := false) (implicitDefEqProofs := false) [m__law_right, mb__law_right, hr, h6, e1]
theorem law_true (ns : List Int) (h : ns.length ≤ 63) : m_law [.list (ns.map .int)] = .ok (.bool true) := by
  obtain ⟨cs, e1, e2, e3⟩ := cells_ok (ns := ns) (m := 3) (by decide) (by decide) h
  exact law_shape1 (p := p1_law) hand_ok e1 (by omega) fun k hk => right_at right_ok hk (by omega)
end FM
namespace FM
open PySem PySem.Spec PyProof.Rows L2 Evl
def dd_greatest_divisor : He.DefD := ⟨("greatest_divisor", none), "greatest_divisor", "greatest_divisor", defArgs (topS 3), defBody (topS 3), defScope (topS 3), [], []⟩
def dd_fraction : He.DefD := ⟨("fraction", none), "fraction", "fraction", defArgs (topS 4), defBody (topS 4), defScope (topS 4), [], []⟩
def dd_check_flags : He.DefD := ⟨("check_flags", none), "check_flags", "check_flags", defArgs (topS 6), defBody (topS 6), defScope (topS 6), [], []⟩
def dd_pair_table : He.DefD := ⟨("pair_table", none), "pair_table", "pair_table", defArgs (topS 7), defBody (topS 7), defScope (topS 7), [], []⟩
def dd_table_of : He.DefD := ⟨("table_of", none), "table_of", "table_of", defArgs (topS 9), defBody (topS 9), defScope (topS 9), [], []⟩
def dd_share_by : He.DefD := ⟨("share_by", none), "share_by", "share_by", defArgs (topS 10), defBody (topS 10), defScope (topS 10), [], []⟩
def dd_share : He.DefD := ⟨("share", none), "share", "share", defArgs (topS 11), defBody (topS 11), defScope (topS 11), [], []⟩
def dd_both_wanted : He.DefD := ⟨("both_wanted", none), "both_wanted", "both_wanted", defArgs (topS 12), defBody (topS 12), defScope (topS 12), [], []⟩
def dd_least_share : He.DefD := ⟨("least_share", none), "least_share", "least_share", defArgs (topS 13), defBody (topS 13), defScope (topS 13), [], []⟩
def dd_most_share : He.DefD := ⟨("most_share", none), "most_share", "most_share", defArgs (topS 14), defBody (topS 14), defScope (topS 14), [], []⟩
def dd__law_box : He.DefD := ⟨("_law_box", none), "_law_box", "_law_box", defArgs (topS 16), defBody (topS 16), defScope (topS 16), [], []⟩
def dd__law_take : He.DefD := ⟨("_law_take", none), "_law_take", "_law_take", defArgs (topS 17), defBody (topS 17), defScope (topS 17), [], []⟩
def dd__law_cells : He.DefD := ⟨("_law_cells", none), "_law_cells", "_law_cells", defArgs (topS 18), defBody (topS 18), defScope (topS 18), [], []⟩
def dd__law_same : He.DefD := ⟨("_law_same", none), "_law_same", "_law_same", defArgs (topS 19), defBody (topS 19), defScope (topS 19), [], []⟩
def dd__law_every : He.DefD := ⟨("_law_every", none), "_law_every", "_law_every", defArgs (topS 20), defBody (topS 20), defScope (topS 20), [], []⟩
def dd__law_less_than : He.DefD := ⟨("_law_less_than", none), "_law_less_than", "_law_less_than", defArgs (topS 21), defBody (topS 21), defScope (topS 21), [], []⟩
def dd__law_case_right : He.DefD := ⟨("_law_case_right", none), "_law_case_right", "_law_case_right", defArgs (topS 22), defBody (topS 22), defScope (topS 22), [], []⟩
def dd__law_by_hand_right : He.DefD := ⟨("_law_by_hand_right", none), "_law_by_hand_right", "_law_by_hand_right", defArgs (topS 23), defBody (topS 23), defScope (topS 23), [], []⟩
def dd__law_right : He.DefD := ⟨("_law_right", none), "_law_right", "_law_right", defArgs (topS 24), defBody (topS 24), defScope (topS 24), [], []⟩
def dd_law : He.DefD := ⟨("law", none), "law", "law", defArgs (topS 25), defBody (topS 25), defScope (topS 25), [], []⟩
def fnL0 : List He.DefD := [dd_greatest_divisor, dd_fraction, dd_check_flags, dd_pair_table, dd_table_of, dd_share_by, dd_share, dd_both_wanted, dd_least_share, dd_most_share, dd__law_box, dd__law_take, dd__law_cells, dd__law_same, dd__law_every, dd__law_less_than, dd__law_case_right, dd__law_by_hand_right, dd__law_right, dd_law]
def fnL : List He.DefD := fnL0
def faL0 : List He.Fa := [.glo "greatest_divisor", .glo "fraction", .glo "check_flags", .glo "pair_table", .glo "table_of", .glo "share_by", .glo "share", .glo "both_wanted", .glo "least_share", .glo "most_share", .glo "_law_box", .glo "_law_take", .glo "_law_cells", .glo "_law_same", .glo "_law_every", .glo "_law_less_than", .glo "_law_case_right", .glo "_law_by_hand_right", .glo "_law_right", .glo "law", .free "abs", .free "all", .free "bool", .free "dict", .free "enumerate", .free "int", .free "isinstance", .free "len", .free "list", .free "max", .free "min", .free "range", .free "sorted", .free "str", .free "tuple"]
def faL1 : List He.Fa := [.free "zip"]
def faL : List He.Fa := faL0 ++ faL1
def otherL0 : List PySem.Str := ["NoFlag", "greatest_divisor", "fraction", "check_flags", "pair_table", "table_of", "share_by", "share", "both_wanted", "least_share", "most_share", "_law_box", "_law_take", "_law_cells", "_law_same", "_law_every", "_law_less_than", "_law_case_right", "_law_by_hand_right", "_law_right"]
def otherL : List PySem.Str := otherL0
abbrev RR : PySem.W.OpenRow := PySem.W.OpenLaw.row PySem.Challenge.rw_flagmeans_k34_proportion_by_numbers
abbrev hkk : PySem.W.Hook := He.hookD 4 faL fnL
def obb (s : PySem.W.SharedT) : He.AlD := He.obsDG 4 faL fnL (HandSHeadRun.getT s)
theorem obb_eq (s : PySem.W.SharedT) : obb s = hkk.obs s.abs := He.obsDG_eq (HandSHeadRun.getT_eq s)
set_option maxHeartbeats 0 in
theorem run_top (w : World) : HandSHeadRun.RunEq RR (PySem.W.view RR.prog [25]) hkk obb 20000 otherL w := by
  intro os
  kernel_rfl
theorem txt_of {K : PySem.W.Frag} {h : Heap} {mg : Str → Option Value} (X : K.In h) (G : h.Ns mainGlobals mg) (c : He.SaysD faL fnL K) : Txt K mg where
  d_greatest_divisor := df_of (c.def_ 0 (d := dd_greatest_divisor) rfl) (He.glo_ok X G (c.fact 0 (f := .glo "greatest_divisor") rfl))
  d_fraction := df_of (c.def_ 1 (d := dd_fraction) rfl) (He.glo_ok X G (c.fact 1 (f := .glo "fraction") rfl))
  d_check_flags := df_of (c.def_ 2 (d := dd_check_flags) rfl) (He.glo_ok X G (c.fact 2 (f := .glo "check_flags") rfl))
  d_pair_table := df_of (c.def_ 3 (d := dd_pair_table) rfl) (He.glo_ok X G (c.fact 3 (f := .glo "pair_table") rfl))
  d_table_of := df_of (c.def_ 4 (d := dd_table_of) rfl) (He.glo_ok X G (c.fact 4 (f := .glo "table_of") rfl))
  d_share_by := df_of (c.def_ 5 (d := dd_share_by) rfl) (He.glo_ok X G (c.fact 5 (f := .glo "share_by") rfl))
  d_share := df_of (c.def_ 6 (d := dd_share) rfl) (He.glo_ok X G (c.fact 6 (f := .glo "share") rfl))
  d_both_wanted := df_of (c.def_ 7 (d := dd_both_wanted) rfl) (He.glo_ok X G (c.fact 7 (f := .glo "both_wanted") rfl))
  d_least_share := df_of (c.def_ 8 (d := dd_least_share) rfl) (He.glo_ok X G (c.fact 8 (f := .glo "least_share") rfl))
  d_most_share := df_of (c.def_ 9 (d := dd_most_share) rfl) (He.glo_ok X G (c.fact 9 (f := .glo "most_share") rfl))
  d__law_box := df_of (c.def_ 10 (d := dd__law_box) rfl) (He.glo_ok X G (c.fact 10 (f := .glo "_law_box") rfl))
  d__law_take := df_of (c.def_ 11 (d := dd__law_take) rfl) (He.glo_ok X G (c.fact 11 (f := .glo "_law_take") rfl))
  d__law_cells := df_of (c.def_ 12 (d := dd__law_cells) rfl) (He.glo_ok X G (c.fact 12 (f := .glo "_law_cells") rfl))
  d__law_same := df_of (c.def_ 13 (d := dd__law_same) rfl) (He.glo_ok X G (c.fact 13 (f := .glo "_law_same") rfl))
  d__law_every := df_of (c.def_ 14 (d := dd__law_every) rfl) (He.glo_ok X G (c.fact 14 (f := .glo "_law_every") rfl))
  d__law_less_than := df_of (c.def_ 15 (d := dd__law_less_than) rfl) (He.glo_ok X G (c.fact 15 (f := .glo "_law_less_than") rfl))
  d__law_case_right := df_of (c.def_ 16 (d := dd__law_case_right) rfl) (He.glo_ok X G (c.fact 16 (f := .glo "_law_case_right") rfl))
  d__law_by_hand_right := df_of (c.def_ 17 (d := dd__law_by_hand_right) rfl) (He.glo_ok X G (c.fact 17 (f := .glo "_law_by_hand_right") rfl))
  d__law_right := df_of (c.def_ 18 (d := dd__law_right) rfl) (He.glo_ok X G (c.fact 18 (f := .glo "_law_right") rfl))
  d_law := df_of (c.def_ 19 (d := dd_law) rfl) (He.glo_ok X G (c.fact 19 (f := .glo "law") rfl))
  b_abs := He.free_ok X G (c.fact 20 (f := .free "abs") rfl)
  b_all := He.free_ok X G (c.fact 21 (f := .free "all") rfl)
  b_bool := He.free_ok X G (c.fact 22 (f := .free "bool") rfl)
  b_dict := He.free_ok X G (c.fact 23 (f := .free "dict") rfl)
  b_enumerate := He.free_ok X G (c.fact 24 (f := .free "enumerate") rfl)
  b_int := He.free_ok X G (c.fact 25 (f := .free "int") rfl)
  b_isinstance := He.free_ok X G (c.fact 26 (f := .free "isinstance") rfl)
  b_len := He.free_ok X G (c.fact 27 (f := .free "len") rfl)
  b_list := He.free_ok X G (c.fact 28 (f := .free "list") rfl)
  b_max := He.free_ok X G (c.fact 29 (f := .free "max") rfl)
  b_min := He.free_ok X G (c.fact 30 (f := .free "min") rfl)
  b_range := He.free_ok X G (c.fact 31 (f := .free "range") rfl)
  b_sorted := He.free_ok X G (c.fact 32 (f := .free "sorted") rfl)
  b_str := He.free_ok X G (c.fact 33 (f := .free "str") rfl)
  b_tuple := He.free_ok X G (c.fact 34 (f := .free "tuple") rfl)
  b_zip := He.free_ok X G (c.fact 35 (f := .free "zip") rfl)
theorem facts {P : Program} {w : World} {K : PySem.W.Frag} {h : Heap} {mg : Str → Option Value} {f : Addr} (X : K.In h) (G : h.Ns mainGlobals mg) (hfa : mg ("law" : Str) = some (.ref f)) (c : He.SaysD faL fnL K) :
    ∃ fd : FuncData, (∀ (s : Shared) (v : Value), BindsTo s fd ⟨[v], []⟩ [("_law_script", v)]) ∧ ∀ base : Heap, K.In base → base.Ns mainGlobals mg → FnOk P w K mg base CX0 19 f fd ["_law_script"] (SpP (tri P w K) 1 m_law) := by
  have T := txt_of X G c
  have e := hfa.symm.trans (He.glo_ok X G (c.fact 19 (f := .glo "law") rfl))
  cases e
  obtain ⟨fd, F⟩ := c.def_ 19 (d := dd_law) rfl
  have b := FunD.bindsA (ps := ["_law_script"]) F fun _ _ _ _ _ _ us hl => match us, hl with | [_], _ => rfl
  exact ⟨fd, fun s v => b s [v] rfl, fun base _ _ => kn_end (fun_of F) hfa (w_law T)⟩
end FM
open PySem PySem.W PySem.Calls PyProof.Rows
set_option maxHeartbeats 0 in
theorem PySem.Challenge.cw_flagmeans_k34_proportion_by_numbers_holds : PySem.Challenge.rw_flagmeans_k34_proportion_by_numbers.Holds := by
  w_on; o_law
  refine HandSHeadRun.head_any (r := OpenLaw.row PySem.Challenge.rw_flagmeans_k34_proportion_by_numbers) (q := view (OpenLaw.row PySem.Challenge.rw_flagmeans_k34_proportion_by_numbers).prog [25]) (H := FM.hkk) (ob := FM.obb) (M := 20000) (loose := FM.otherL) (d := HandSHeadRun.topDef (OpenLaw.row PySem.Challenge.rw_flagmeans_k34_proportion_by_numbers).prog 25) (kwd := []) FM.obb_eq
    (by kernel_rfl) (fun s => by kernel_rfl) FM.run_top (by kernel_rfl) (by kernel_rfl) (by kernel_rfl) (by rfl) (by first | assumption | decide +kernel) (by decide +kernel) ⟨rfl, rfl, rfl, rfl, rfl, by decide +kernel⟩ ?hw ?hc
  case hw => w_witness2
  case hc =>
    refine L2.walk_ofE (l := PySem.Challenge.rw_flagmeans_k34_proportion_by_numbers) (n := 63) (k := 19) (x := "_law_script") (CX := L2.CX0) rfl (by decide) (by kernel_rfl) ⟨rfl, by decide, by decide⟩ ?F (fun _ _ _ _ z => z)
    intro w mg fa h Y G hmg0
    obtain ⟨K, KX, c⟩ := Y
    have hmg : mg ("law" : PySem.Str) = some (.ref fa) := by
      have e : (HandSHeadRun.topDef (OpenLaw.row PySem.Challenge.rw_flagmeans_k34_proportion_by_numbers).prog 25).name = ("law" : PySem.Str) := by kernel_rfl
      rw [← e]
      exact hmg0
    obtain ⟨fd, hb, hF⟩ := FM.facts (P := (PySem.Challenge.rw_flagmeans_k34_proportion_by_numbers).prog) (w := w) KX G hmg c
    exact ⟨K, fd, _, KX, hb, fun H a ns hl _ hS => FM.sp_end hS (FM.law_true ns hl), hF⟩

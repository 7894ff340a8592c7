import PyProof.Rows.All
import Wide.All
import OpenK.AllK
import Wide.FinOn
import HandS.ForMost
import HandS.TupAny
import HandS.Style
import HandS.Conv
import HandS.IsInst
import HandS.DictComp
import HandS.Zip
import HandS.Wide
import KE.SortData
import KE.DataMinMax
import KE.KSortTup
import HandS.Zip0
import HandS.SetFor
import HandS.Strs
import HandS.TupSets
import HandS.RaiseMore
import HandS.TryOnly
import HandS.WordsExc
import HandS.ExcOwn
import PySem.Challenge.RW_everyweather_k99_whole_farms_and_weather
set_option Elab.async false
set_option linter.all false
set_option maxRecDepth 100000
set_option maxHeartbeats 4000000
section
/-! Ghost states: what a def's names hold, as plain data; the heap stays hidden. -/
namespace Gh
open PySem L2

section
variable {K : PySem.W.Frag} {B B' : Hp}
theorem rd_mono (e : Same B B') {a : Addr} {u : HO} (h : Rd B a u) : Rd B' a u := by
  rcases h with h | ⟨o, h⟩
  · exact .inl (e _ _ h)
  · exact .inr ⟨o, e _ _ h⟩
theorem sqL_mono (e : Same B B') {a : Addr} {xs : List V} (h : SqL K B a xs) : SqL K B' a xs := e.seq h
theorem sqT_mono (e : Same B B') {a : Addr} {xs : List V} (h : SqT K B a xs) : SqT K B' a xs := by
  rcases h with h | h
  · exact .inl (rd_mono e h)
  · exact .inr h
mutual
theorem dp_mono (e : Same B B') : ∀ (d : PyData) (v : V), Dp K B v d → Dp K B' v d
  | .none, _, h => by cases h; exact .non
  | .bool b, _, h => by cases h; exact .bl b
  | .int i, _, h => by cases h; exact .int i
  | .str x, _, h => by cases h; exact .str x
  | .list ds, _, h => by
    cases h with
    | lst hs ha => exact .lst (sqL_mono e hs) (dpAll_mono e ds _ ha)
  | .tuple ds, _, h => by
    cases h with
    | tup hs ha => exact .tup (sqT_mono e hs) (dpAll_mono e ds _ ha)
  | .dict _, _, h => by cases h
theorem dpAll_mono (e : Same B B') : ∀ (ds : List PyData) (vs : List V), DpAll K B vs ds → DpAll K B' vs ds
  | [], _, h => by cases h; exact .nil
  | d :: ds, _, h => by
    cases h with
    | cons h1 h2 => exact .cons (dp_mono e d _ h1) (dpAll_mono e ds _ h2)
end
theorem Same.trans' {H H1 H2 : Hp} (a : Same H H1) (b : Same H1 H2) : Same H H2 := a.trans b
theorem dpAll_len : ∀ {vs : List V} {ds : List PyData}, DpAll K B vs ds → vs.length = ds.length
  | _, _, .nil => rfl
  | _, _, .cons _ t => congrArg Nat.succ (dpAll_len t)
theorem dpAll_get : ∀ {vs : List V} {ds : List PyData} {i : Nat} {d : PyData}, DpAll K B vs ds → ds[i]? = some d → ∃ v, vs[i]? = some v ∧ Dp K B v d
  | _, _, _, _, .nil, e => by simp at e
  | _, _, 0, _, .cons r _, e => by simp at e; subst e; exact ⟨_, rfl, r⟩
  | _, _, i + 1, d, .cons _ t, e => by
    obtain ⟨v, h1, h2⟩ := dpAll_get (i := i) t (by simpa using e)
    exact ⟨v, by simpa using h1, h2⟩
theorem dpAll_get' : ∀ {vs : List V} {ds : List PyData} {i : Nat} {v : V}, DpAll K B vs ds → vs[i]? = some v → ∃ d, ds[i]? = some d ∧ Dp K B v d
  | _, _, _, _, .nil, e => by simp at e
  | _, _, 0, _, .cons r _, e => by simp at e; subst e; exact ⟨_, rfl, r⟩
  | _, _, i + 1, d, .cons _ t, e => by
    obtain ⟨v, h1, h2⟩ := dpAll_get' (i := i) t (by simpa using e)
    exact ⟨v, by simpa using h1, h2⟩
theorem dpAll_app : ∀ {vs ws : List V} {ds es : List PyData}, DpAll K B vs ds → DpAll K B ws es → DpAll K B (vs ++ ws) (ds ++ es)
  | _, _, _, _, .nil, h => h
  | _, _, _, _, .cons r t, h => .cons r (dpAll_app t h)
theorem dpAll_one {v : V} {d : PyData} (h : Dp K B v d) : DpAll K B [v] [d] := .cons h .nil
theorem dpAll_take : ∀ {vs : List V} {ds : List PyData} (n : Nat), DpAll K B vs ds → DpAll K B (vs.take n) (ds.take n)
  | _, _, 0, _ => by simp; exact .nil
  | _, _, n + 1, .nil => by simp; exact .nil
  | _, _, n + 1, .cons r t => by simp; exact .cons r (dpAll_take n t)
theorem dpAll_drop : ∀ {vs : List V} {ds : List PyData} (n : Nat), DpAll K B vs ds → DpAll K B (vs.drop n) (ds.drop n)
  | _, _, 0, h => by simpa using h
  | _, _, n + 1, .nil => by simp; exact .nil
  | _, _, n + 1, .cons r t => by simp; exact dpAll_drop n t
theorem dpAll_rev : ∀ {vs : List V} {ds : List PyData}, DpAll K B vs ds → DpAll K B vs.reverse ds.reverse
  | _, _, .nil => by simp; exact .nil
  | _, _, .cons r t => by simp; exact dpAll_app (dpAll_rev t) (dpAll_one r)
theorem dpAll_set : ∀ {vs : List V} {ds : List PyData} {v : V} {d : PyData} (n : Nat), DpAll K B vs ds → Dp K B v d → DpAll K B (vs.set n v) (ds.set n d)
  | _, _, _, _, _, .nil, _ => by simp; exact .nil
  | _, _, _, _, 0, .cons r t, h => by simp; exact .cons h t
  | _, _, _, _, n + 1, .cons r t, h => by simp; exact .cons r (dpAll_set n t h)
theorem dpAll_erase : ∀ {vs : List V} {ds : List PyData} (n : Nat), DpAll K B vs ds → DpAll K B (vs.eraseIdx n) (ds.eraseIdx n)
  | _, _, _, .nil => by simp; exact .nil
  | _, _, 0, .cons r t => by simp; exact t
  | _, _, n + 1, .cons r t => by simp; exact .cons r (dpAll_erase n t)
theorem dpAll_int : ∀ {vs : List V} {ns : List Int}, DpAll K B vs (ns.map PyData.int) → vs = ns.map V.int
  | _, [], h => by cases h; rfl
  | _, n :: ns, h => by
    cases h with
    | cons r t =>
      cases r
      rw [List.map_cons, dpAll_int t]
theorem dpAll_ofInt : ∀ (ns : List Int), DpAll K B (ns.map V.int) (ns.map PyData.int)
  | [] => .nil
  | n :: ns => .cons (.int n) (dpAll_ofInt ns)
theorem dpAll_bool : ∀ {vs : List V} {ns : List Bool}, DpAll K B vs (ns.map PyData.bool) → vs = ns.map V.bl
  | _, [], h => by cases h; rfl
  | _, n :: ns, h => by
    cases h with
    | cons r t =>
      cases r
      rw [List.map_cons, dpAll_bool t]
theorem dpAll_rep {v : V} {d : PyData} (h : Dp K B v d) : ∀ n : Nat, DpAll K B (List.replicate n v) (List.replicate n d)
  | 0 => .nil
  | n + 1 => .cons h (dpAll_rep h n)
theorem dp_int {v : V} {i : Int} (h : Dp K B v (.int i)) : v = .int i := by cases h; rfl
theorem dp_bool {v : V} {i : Bool} (h : Dp K B v (.bool i)) : v = .bl i := by cases h; rfl
theorem dp_str {v : V} {i : Str} (h : Dp K B v (.str i)) : v = .str i := by cases h; rfl
theorem dp_none {v : V} (h : Dp K B v .none) : v = .non := by cases h; rfl
theorem dp_tup {v : V} {ds : List PyData} (h : Dp K B v (.tuple ds)) : ∃ a vs, v = .ref a ∧ SqT K B a vs ∧ DpAll K B vs ds := by
  cases h with
  | tup h1 h2 => exact ⟨_, _, rfl, h1, h2⟩
theorem dp_lst {v : V} {ds : List PyData} (h : Dp K B v (.list ds)) : ∃ a vs, v = .ref a ∧ SqL K B a vs ∧ DpAll K B vs ds := by
  cases h with
  | lst h1 h2 => exact ⟨_, _, rfl, h1, h2⟩
end

/-! ### ghost states -/
/-- what a name holds: nothing that is known; data that stays; a list or a dict of its own, that may change; a dict that is locked while it is walked -/
inductive GE where
  | no
  | val (d : PyData)
  | lst (ds : List PyData)
  | dct (kvs : List (Key × PyData))
  | lck (kvs : List (Key × PyData))
abbrev GS := List GE
def GE.mu : GE → Bool
  | .lst _ => true
  | .dct _ => true
  | _ => false
def KvRel (K : PySem.W.Frag) (B : Hp) : List (Key × PyData) → List (Key × V) → Prop := Paired fun p q => p.1 = q.1 ∧ Dp K B q.2 p.2
theorem kvRel_mono {K : PySem.W.Frag} {B B' : Hp} (e : Same B B') {ks : List (Key × PyData)} {ws : List (Key × V)} (h : KvRel K B ks ws) : KvRel K B' ks ws :=
  Paired.mapP h fun _ _ z => ⟨z.1, dp_mono e _ _ z.2⟩
def Slot (K : PySem.W.Frag) (F B H : Hp) (o : Option V) : GE → Prop
  | .no => True
  | .val d => ∃ v, o = some v ∧ Dp K B v d
  | .lst ds => ∃ p vs, o = some (.ref p) ∧ H p = some (.lst vs) ∧ F p = none ∧ B p = none ∧ DpAll K B vs ds
  | .dct kvs => ∃ p ws, o = some (.ref p) ∧ H p = some (.dK ws) ∧ F p = none ∧ B p = none ∧ KvRel K B kvs ws
  | .lck kvs => ∃ p ws ob, o = some (.ref p) ∧ F p = some (.frz ob (.dK ws)) ∧ KvRel K B kvs ws
/-- the frame of a call: F must stay; B0 is the data that was there; ps: the places of the parameters that are handed in to be changed -/
structure GC where
  F : Hp
  B0 : Hp
  ps : List (Nat × Addr)
structure Rel (K : PySem.W.Frag) (C : GC) (B H : Hp) (σ : L2.St) (Γ : GS) : Prop where
  fh : Same C.F H
  b0 : Same C.B0 B
  bh : Same B H
  fr : ∀ b o, C.F b = some o → C.B0 b = none → B b = none
  len : Γ.length = σ.length
  at_ : ∀ (i : Nat) (g : GE), Γ[i]? = some g → ∃ o, σ[i]? = some o ∧ Slot K C.F B H o g
  dis : ∀ (i j : Nat) (gi gj : GE) (p : Addr), Γ[i]? = some gi → Γ[j]? = some gj → gi.mu = true → gj.mu = true → σ[i]? = some (some (.ref p)) → σ[j]? = some (some (.ref p)) → i = j
  pin : ∀ q ∈ C.ps, σ[q.1]? = some (some (.ref q.2)) ∧ ∃ g, Γ[q.1]? = some g ∧ g.mu = true

section
variable {K : PySem.W.Frag} {C : GC} {B H B' H' : Hp} {σ : L2.St} {Γ : GS}
theorem Slot.mut {F : Hp} {o : Option V} {g : GE} (h : Slot K F B H o g) (m : g.mu = true) : ∃ p u, o = some (.ref p) ∧ H p = some u ∧ F p = none ∧ B p = none := by
  cases g with
  | lst ds => obtain ⟨p, vs, e, h1, h2, h3, _⟩ := h; exact ⟨p, _, e, h1, h2, h3⟩
  | dct ds => obtain ⟨p, vs, e, h1, h2, h3, _⟩ := h; exact ⟨p, _, e, h1, h2, h3⟩
  | no => cases m
  | val d => cases m
  | lck d => cases m
/-- the heap grows; new data; nothing that stood is changed -/
theorem Rel.grow (R : Rel K C B H σ Γ) (hb : Same B B') (hh : Same H H') (bh : Same B' H') (fr : ∀ b o, H b = some o → B b = none → B' b = none) : Rel K C B' H' σ Γ where
  fh := R.fh.trans hh
  b0 := R.b0.trans hb
  bh := bh
  fr := fun b o h1 h2 => fr b o (R.fh _ _ h1) (R.fr b o h1 h2)
  len := R.len
  at_ := fun i g e => by
    obtain ⟨o, h1, h2⟩ := R.at_ i g e
    refine ⟨o, h1, ?_⟩
    cases g with
    | no => trivial
    | val d => obtain ⟨v, e1, e2⟩ := h2; exact ⟨v, e1, dp_mono hb _ _ e2⟩
    | lst ds => obtain ⟨p, vs, e1, e2, e3, e4, e5⟩ := h2; exact ⟨p, vs, e1, hh _ _ e2, e3, fr _ _ e2 e4, dpAll_mono hb _ _ e5⟩
    | dct ds => obtain ⟨p, vs, e1, e2, e3, e4, e5⟩ := h2; exact ⟨p, vs, e1, hh _ _ e2, e3, fr _ _ e2 e4, kvRel_mono hb e5⟩
    | lck ds => obtain ⟨p, vs, ob, e1, e2, e3⟩ := h2; exact ⟨p, vs, ob, e1, e2, kvRel_mono hb e3⟩
  dis := R.dis
  pin := R.pin
theorem same_upd {H : Hp} {p : Addr} {o : HO} (h : H p = none) : Same H (upd H p o) := fun b u e => by
  rw [upd_ne (ne_of_none e h)]; exact e
theorem same_upd2 {B H : Hp} {p : Addr} {o : HO} (bh : Same B H) (h : B p = none) : Same B (upd H p o) := fun b u e => by
  rw [upd_ne (ne_of_none e h)]; exact bh _ _ e
theorem same_upd3 {B H : Hp} {p : Addr} {o : HO} (bh : Same B H) : Same (upd B p o) (upd H p o) := fun b u e => by
  by_cases hb : b = p
  · subst hb; rw [upd_same] at e ⊢; exact e
  · rw [upd_ne hb] at e ⊢; exact bh _ _ e
theorem Rel.bnone (R : Rel K C B H σ Γ) {p : Addr} (h : H p = none) : B p = none := R.bh.free h
theorem Rel.fnone (R : Rel K C B H σ Γ) {p : Addr} (h : H p = none) : C.F p = none := R.fh.free h
/-- a new object, data from now on -/
theorem Rel.new (R : Rel K C B H σ Γ) {p : Addr} {o : HO} (h : H p = none) : Rel K C (upd B p o) (upd H p o) σ Γ :=
  R.grow (same_upd (R.bnone h)) (same_upd h) (same_upd3 R.bh) fun b u e n => by
    rw [upd_ne (ne_of_none e h)]; exact n
/-- a new object, of nobody yet -/
theorem Rel.alloc (R : Rel K C B H σ Γ) {p : Addr} {o : HO} (h : H p = none) : Rel K C B (upd H p o) σ Γ :=
  R.grow (Same.refl B) (same_upd h) (same_upd2 R.bh (R.bnone h)) fun b u e n => n
/-- an object that is neither data nor a name's changes -/
theorem Rel.other (R : Rel K C B H σ Γ) {p : Addr} {o : HO} (hf : C.F p = none) (hb : B p = none) (hm : ∀ (i : Nat) (g : GE), Γ[i]? = some g → g.mu = true → σ[i]? ≠ some (some (.ref p))) : Rel K C B (upd H p o) σ Γ where
  fh := same_upd2 R.fh hf
  b0 := R.b0
  bh := same_upd2 R.bh hb
  fr := R.fr
  len := R.len
  at_ := fun i g e => by
    obtain ⟨o', h1, h2⟩ := R.at_ i g e
    refine ⟨o', h1, ?_⟩
    cases g with
    | no => trivial
    | val d => exact h2
    | lck d => exact h2
    | lst ds =>
      obtain ⟨q, vs, e1, e2, e3, e4, e5⟩ := h2
      have hq : q ≠ p := fun z => hm i _ e rfl (by rw [h1, e1, z])
      exact ⟨q, vs, e1, by rw [upd_ne hq]; exact e2, e3, e4, e5⟩
    | dct ds =>
      obtain ⟨q, vs, e1, e2, e3, e4, e5⟩ := h2
      have hq : q ≠ p := fun z => hm i _ e rfl (by rw [h1, e1, z])
      exact ⟨q, vs, e1, by rw [upd_ne hq]; exact e2, e3, e4, e5⟩
  dis := R.dis
  pin := R.pin
theorem Rel.slot (R : Rel K C B H σ Γ) {i : Nat} {g : GE} (e : Γ[i]? = some g) : ∃ o, σ[i]? = some o ∧ Slot K C.F B H o g := R.at_ i g e
theorem get_set {α : Type} {l : List α} {i j : Nat} {x y : α} (h : (l.set i x)[j]? = some y) : (j = i ∧ y = x) ∨ (j ≠ i ∧ l[j]? = some y) := by
  by_cases e : i = j
  · subst e
    by_cases hl : i < l.length
    · rw [List.getElem?_set_self hl] at h; cases h; exact .inl ⟨rfl, rfl⟩
    · rw [List.getElem?_eq_none (by simpa using hl)] at h; cases h
  · rw [List.getElem?_set_ne e] at h
    exact .inr ⟨fun z => e z.symm, h⟩
/-- may the name in slot i be given another thing? -/
def Free (C : GC) (Γ : GS) (i : Nat) : Prop := (∃ g, Γ[i]? = some g ∧ g.mu = false) ∨ ∀ q ∈ C.ps, q.1 ≠ i
theorem Free.ne (R : Rel K C B H σ Γ) {i : Nat} (h : Free C Γ i) : ∀ q ∈ C.ps, q.1 ≠ i := by
  rcases h with ⟨g, e, m⟩ | h
  · intro q hq z
    obtain ⟨_, g', e', m'⟩ := R.pin q hq
    rw [z, e] at e'; cases e'; rw [m] at m'; cases m'
  · exact h
theorem Rel.set (R : Rel K C B H σ Γ) {i : Nat} {v : V} {g : GE} (hi : i < Γ.length) (hf : Free C Γ i) (hs : Slot K C.F B H (some v) g)
    (hd : g.mu = true → ∀ (j : Nat) (gj : GE), j ≠ i → Γ[j]? = some gj → gj.mu = true → σ[j]? ≠ some (some v)) : Rel K C B H (σ.set i (some v)) (Γ.set i g) where
  fh := R.fh
  b0 := R.b0
  bh := R.bh
  fr := R.fr
  len := by rw [List.length_set, List.length_set]; exact R.len
  at_ := fun j gj e => by
    rcases get_set e with ⟨rfl, rfl⟩ | ⟨hj, e⟩
    · exact ⟨_, List.getElem?_set_self (by rw [← R.len]; exact hi), hs⟩
    · obtain ⟨o, h1, h2⟩ := R.at_ j gj e
      exact ⟨o, by rw [List.getElem?_set_ne (fun z => hj z.symm)]; exact h1, h2⟩
  dis := fun j k gj gk p ej ek mj mk sj sk => by
    have hl : i < σ.length := by rw [← R.len]; exact hi
    by_cases hj : j = i
    · by_cases hk : k = i
      · rw [hj, hk]
      · rw [hj, List.getElem?_set_self hi] at ej
        rw [hj, List.getElem?_set_self hl] at sj
        rw [List.getElem?_set_ne (fun z => hk z.symm)] at ek sk
        cases ej
        cases sj
        exact absurd sk (hd mj k gk hk ek mk)
    · rw [List.getElem?_set_ne (fun z => hj z.symm)] at ej sj
      by_cases hk : k = i
      · rw [hk, List.getElem?_set_self hi] at ek
        rw [hk, List.getElem?_set_self hl] at sk
        cases ek
        cases sk
        exact absurd sj (hd mk j gj hj ej mj)
      · rw [List.getElem?_set_ne (fun z => hk z.symm)] at ek sk
        exact R.dis j k gj gk p ej ek mj mk sj sk
  pin := fun q hq => by
    have hne := hf.ne R q hq
    obtain ⟨h1, g', h2, h3⟩ := R.pin q hq
    exact ⟨by rw [List.getElem?_set_ne (fun z => hne z.symm)]; exact h1, g', by rw [List.getElem?_set_ne (fun z => hne z.symm)]; exact h2, h3⟩
theorem Rel.setVal (R : Rel K C B H σ Γ) {i : Nat} {v : V} {d : PyData} (hi : i < Γ.length) (hf : Free C Γ i) (h : Dp K B v d) : Rel K C B H (σ.set i (some v)) (Γ.set i (.val d)) :=
  R.set hi hf ⟨v, rfl, h⟩ fun z => by cases z
/-- a new list (dict) for a name -/
theorem Rel.setNew (R : Rel K C B H σ Γ) {i : Nat} {p : Addr} {u : HO} {g : GE} (hi : i < Γ.length) (hf : Free C Γ i) (hp : H p = none)
    (hs : Slot K C.F B (upd H p u) (some (.ref p)) g) : Rel K C B (upd H p u) (σ.set i (some (.ref p))) (Γ.set i g) :=
  (R.alloc hp).set hi hf hs fun _ j gj _ ej mj z => by
    obtain ⟨o, h1, h2⟩ := R.at_ j gj ej
    obtain ⟨q, u', e1, e2, _, _⟩ := h2.mut mj
    rw [h1, e1] at z
    cases z
    rw [hp] at e2; cases e2
/-- a list of a name's own changes -/
theorem Rel.put (R : Rel K C B H σ Γ) {i : Nat} {p : Addr} {u : HO} {g g' : GE} (e : Γ[i]? = some g) (m : g.mu = true) (m' : g'.mu = true) (hσ : σ[i]? = some (some (.ref p))) (hs : Slot K C.F B (upd H p u) (some (.ref p)) g') :
    Rel K C B (upd H p u) σ (Γ.set i g') := by
  have hi : i < Γ.length := (List.getElem?_eq_some_iff.mp e).1
  obtain ⟨o, h1, h2⟩ := R.at_ i g e
  obtain ⟨q, u', e1, e2, e3, e4⟩ := h2.mut m
  rw [h1, e1] at hσ
  cases hσ
  rw [e1] at h1
  refine ⟨same_upd2 R.fh e3, R.b0, same_upd2 R.bh e4, R.fr, by rw [List.length_set]; exact R.len, fun j gj ej => ?_, fun j k gj gk r ej ek mj mk sj sk => ?_, fun r hr => ?_⟩
  · rcases get_set ej with ⟨rfl, rfl⟩ | ⟨hj, ej⟩
    · exact ⟨_, h1, hs⟩
    · obtain ⟨oj, j1, j2⟩ := R.at_ j gj ej
      refine ⟨oj, j1, ?_⟩
      cases gj with
      | no => trivial
      | val d => exact j2
      | lck d => exact j2
      | lst ds =>
        obtain ⟨r, vs, f1, f2, f3, f4, f5⟩ := j2
        have hr : r ≠ p := fun z => by subst z; exact hj (R.dis j i _ _ r ej e rfl m (by rw [j1, f1]) h1)
        exact ⟨r, vs, f1, by rw [upd_ne hr]; exact f2, f3, f4, f5⟩
      | dct ds =>
        obtain ⟨r, vs, f1, f2, f3, f4, f5⟩ := j2
        have hr : r ≠ p := fun z => by subst z; exact hj (R.dis j i _ _ r ej e rfl m (by rw [j1, f1]) h1)
        exact ⟨r, vs, f1, by rw [upd_ne hr]; exact f2, f3, f4, f5⟩
  · by_cases hj : j = i
    · by_cases hk : k = i
      · rw [hj, hk]
      · rw [List.getElem?_set_ne (fun z => hk z.symm)] at ek
        rw [hj] at sj ⊢
        exact R.dis i k g gk r e ek m mk sj sk
    · rw [List.getElem?_set_ne (fun z => hj z.symm)] at ej
      by_cases hk : k = i
      · rw [hk] at sk ⊢
        exact R.dis j i gj g r ej e mj m sj sk
      · rw [List.getElem?_set_ne (fun z => hk z.symm)] at ek
        exact R.dis j k gj gk r ej ek mj mk sj sk
  · obtain ⟨h3, g3, h4, h5⟩ := R.pin r hr
    refine ⟨h3, ?_⟩
    by_cases z : i = r.1
    · refine ⟨g', ?_, m'⟩
      rw [← z]
      exact List.getElem?_set_self hi
    · exact ⟨g3, by rw [List.getElem?_set_ne z]; exact h4, h5⟩
theorem Rel.lst (R : Rel K C B H σ Γ) {i : Nat} {ds : List PyData} (e : Γ[i]? = some (.lst ds)) : ∃ p vs, σ[i]? = some (some (.ref p)) ∧ H p = some (.lst vs) ∧ C.F p = none ∧ B p = none ∧ DpAll K B vs ds := by
  obtain ⟨o, h1, p, vs, h2, h3⟩ := R.at_ i _ e
  exact ⟨p, vs, by rw [h1, h2], h3⟩
theorem Rel.dct (R : Rel K C B H σ Γ) {i : Nat} {ds : List (Key × PyData)} (e : Γ[i]? = some (.dct ds)) : ∃ p ws, σ[i]? = some (some (.ref p)) ∧ H p = some (.dK ws) ∧ C.F p = none ∧ B p = none ∧ KvRel K B ds ws := by
  obtain ⟨o, h1, p, vs, h2, h3⟩ := R.at_ i _ e
  exact ⟨p, vs, by rw [h1, h2], h3⟩
theorem Rel.val (R : Rel K C B H σ Γ) {i : Nat} {d : PyData} (e : Γ[i]? = some (.val d)) : ∃ v, σ[i]? = some (some v) ∧ Dp K B v d := by
  obtain ⟨o, h1, v, h2, h3⟩ := R.at_ i _ e
  exact ⟨v, by rw [h1, h2], h3⟩
/-- a name's own list becomes data -/
theorem Rel.freeze (R : Rel K C B H σ Γ) {i : Nat} {ds : List PyData} (e : Γ[i]? = some (.lst ds)) (hf : ∀ q ∈ C.ps, q.1 ≠ i) :
    ∃ p B', σ[i]? = some (some (.ref p)) ∧ Same B B' ∧ Dp K B' (.ref p) (.list ds) ∧ Rel K C B' H σ (Γ.set i (.val (.list ds))) := by
  obtain ⟨p, vs, h1, h2, h3, h4, h5⟩ := R.lst e
  have hi : i < Γ.length := (List.getElem?_eq_some_iff.mp e).1
  have sb : Same B (upd B p (.lst vs)) := same_upd h4
  have hd : Dp K (upd B p (.lst vs)) (.ref p) (.list ds) := .lst (SqL.of upd_same) (dpAll_mono sb _ _ h5)
  refine ⟨p, upd B p (.lst vs), h1, sb, hd, R.fh, R.b0.trans sb, fun b o eb => ?_, fun b o f1 f2 => ?_, by rw [List.length_set]; exact R.len, fun j gj ej => ?_, fun j k gj gk r ej ek mj mk sj sk => ?_, fun r hr => ?_⟩
  · by_cases hb : b = p
    · subst hb; rw [upd_same] at eb; cases eb; exact h2
    · rw [upd_ne hb] at eb; exact R.bh _ _ eb
  · rw [upd_ne (ne_of_none f1 h3)]; exact R.fr b o f1 f2
  · rcases get_set ej with ⟨rfl, rfl⟩ | ⟨hj, ej⟩
    · exact ⟨_, h1, _, rfl, hd⟩
    · obtain ⟨oj, j1, j2⟩ := R.at_ j gj ej
      refine ⟨oj, j1, ?_⟩
      cases gj with
      | no => trivial
      | val d => obtain ⟨v, z1, z2⟩ := j2; exact ⟨v, z1, dp_mono sb _ _ z2⟩
      | lck ds' => obtain ⟨t, vs, ob, z1, z2, z3⟩ := j2; exact ⟨t, vs, ob, z1, z2, kvRel_mono sb z3⟩
      | lst ds' =>
        obtain ⟨r, ws, f1, f2, f3, f4, f5⟩ := j2
        have hr : r ≠ p := fun z => by subst z; exact hj (R.dis j i _ _ r ej e rfl rfl (by rw [j1, f1]) h1)
        exact ⟨r, ws, f1, f2, f3, by rw [upd_ne hr]; exact f4, dpAll_mono sb _ _ f5⟩
      | dct ds' =>
        obtain ⟨r, ws, f1, f2, f3, f4, f5⟩ := j2
        have hr : r ≠ p := fun z => by subst z; exact hj (R.dis j i _ _ r ej e rfl rfl (by rw [j1, f1]) h1)
        exact ⟨r, ws, f1, f2, f3, by rw [upd_ne hr]; exact f4, kvRel_mono sb f5⟩
  · rcases get_set ej with ⟨rfl, rfl⟩ | ⟨hj, ej⟩
    · cases mj
    · rcases get_set ek with ⟨rfl, rfl⟩ | ⟨hk, ek⟩
      · cases mk
      · exact R.dis j k gj gk r ej ek mj mk sj sk
  · obtain ⟨h6, g6, h7, h8⟩ := R.pin r hr
    refine ⟨h6, g6, ?_, h8⟩
    rw [List.getElem?_set_ne (fun z => hf r hr z.symm)]; exact h7
end
end Gh
end

section
/-! The judgements over ghost states, and their rules. -/
namespace Gh
open PySem L2

section
variable (X : Cx)
def wpe (e : Expr) : TE := fun σ H Q => ∀ (pins : List (Addr × Obj)) (s : Shared), Inv X pins σ H s → wpAny (model X.prog X.w) X.A (eval e X.env) (EP X pins σ Q) X.xe s
def wpt (e : Expr) : TT := fun σ H Q => ∀ (pins : List (Addr × Obj)) (s : Shared), Inv X pins σ H s → wpAny (model X.prog X.w) X.A (isTrue e X.env (eval e X.env)) (TP X pins σ Q) X.xe s
def wpw (e : Expr) : TT := fun σ H Q => ∀ (whole : Sem Value) (pins : List (Addr × Obj)) (s : Shared), Inv X pins σ H s → wpAny (model X.prog X.w) X.A (isTrue e X.env whole) (TP X pins σ Q) X.xe s
def wpa (es : List Expr) : TA := fun σ H Q => ∀ (pos : Pos) (pins : List (Addr × Obj)) (s : Shared), Inv X pins σ H s → wpAny (model X.prog X.w) X.A (spliced (backTo pos (starEach es X.env))) (AP X pins σ Q) X.xe s
def wps (st : Stmt) : TS := fun D σ H => ∀ (pins : List (Addr × Obj)) (s : Shared), Inv X pins σ H s → wpAny (model X.prog X.w) X.A (exec st X.env) (SP X pins D) X.xe s
def wpb (st : List Stmt) : TS := fun D σ H => ∀ (pins : List (Addr × Obj)) (s : Shared), Inv X pins σ H s → wpAny (model X.prog X.w) X.A (execs st X.env) (SP X pins D) X.xe s
def wpg (tg : Expr) : TG := fun v σ H Q => ∀ (pins : List (Addr × Obj)) (s : Shared) (u : Value), Inv X pins σ H s → RelV v u → wpAny (model X.prog X.w) X.A (assign tg X.env u) (fun _ s' => ∃ σ' H', Inv X pins σ' H' s' ∧ Q σ' H') X.xe s
def wpgs (ts : List Expr) : TGs := fun vs σ H Q => ∀ (pins : List (Addr × Obj)) (s : Shared) (us : List Value), Inv X pins σ H s → Vals vs us → wpAny (model X.prog X.w) X.A (assignInOrder ((assignEach ts X.env).map (·.2)) us) (fun _ s' => ∃ σ' H', Inv X pins σ' H' s' ∧ Q σ' H') X.xe s
def wpts (ifs : List Expr) : TT := fun σ H Q => ∀ (pins : List (Addr × Obj)) (s : Shared), Inv X pins σ H s →
  wpAny (model X.prog X.w) X.A (forIn ifs true fun c r => if r = true then do let ok ← isTrue c X.env (eval c X.env); pure (ForInStep.yield ok) else pure (ForInStep.yield r)) (TP X pins σ Q) X.xe s
def wpo (e : Option Expr) : TO := fun σ H Q => ∀ (pins : List (Addr × Obj)) (s : Shared), Inv X pins σ H s → wpAny (model X.prog X.w) X.A (evalPart e X.env) (fun u s' => ∃ o H', Inv X pins σ H' s' ∧ IsPart u o ∧ Q o H') X.xe s
end
section
variable {X : Cx} {e : Expr} {σ : L2.St} {H : Hp}
theorem pe_w : PE X e (wpe X e) := ⟨fun pins s _ _ _ I h => h pins s I⟩
theorem pt_w : PT X e (wpt X e) := ⟨fun pins s _ _ _ I h => h pins s I⟩
theorem pw_w : PW X e (wpw X e) := ⟨fun wh pins s _ _ _ I h => h wh pins s I⟩
theorem pa_w {es : List Expr} : PA X es (wpa X es) := ⟨fun pos pins s _ _ _ I h => h pos pins s I⟩
theorem ps_w {st : Stmt} : PS X st (wps X st) := ⟨fun pins s _ _ _ I h => h pins s I⟩
theorem pb_w {st : List Stmt} : PSs X st (wpb X st) := ⟨fun pins s _ _ _ I h => h pins s I⟩
theorem pg_w {tg : Expr} : PG X tg (wpg X tg) := ⟨fun pins s _ _ _ u _ I r h => h pins s u I r⟩
theorem pgs_w {tg : List Expr} : PGs X tg (wpgs X tg) := ⟨fun pins s _ _ _ u _ I r h => h pins s u I r⟩
theorem pts_w {tg : List Expr} : PTs X tg (wpts X tg) := ⟨fun pins s _ _ _ I h => h pins s I⟩
theorem po_w {e : Option Expr} : PO X e (wpo X e) := ⟨fun pins s _ _ _ I h => h pins s I⟩
theorem wpe_of {t : TE} (h : PE X e t) {Q : VK} (q : t σ H Q) : wpe X e σ H Q := fun pins s I => h.run pins s σ H Q I q
theorem wpt_of {t : TT} (h : PT X e t) {Q : Bool → Hp → Prop} (q : t σ H Q) : wpt X e σ H Q := fun pins s I => h.run pins s σ H Q I q
theorem wpw_of {t : TT} (h : PW X e t) {Q : Bool → Hp → Prop} (q : t σ H Q) : wpw X e σ H Q := fun wh pins s I => h.run wh pins s σ H Q I q
theorem wpa_of {es : List Expr} {t : TA} (h : PA X es t) {Q : List V → Hp → Prop} (q : t σ H Q) : wpa X es σ H Q := fun pos pins s I => h.run pos pins s σ H Q I q
theorem wps_of {st : Stmt} {t : TS} (h : PS X st t) {D : Ends} (q : t D σ H) : wps X st D σ H := fun pins s I => h.run pins s σ H D I q
theorem wpb_of {st : List Stmt} {t : TS} (h : PSs X st t) {D : Ends} (q : t D σ H) : wpb X st D σ H := fun pins s I => h.run pins s σ H D I q
theorem wpg_of {tg : Expr} {t : TG} (h : PG X tg t) {v : V} {Q : L2.St → Hp → Prop} (q : t v σ H Q) : wpg X tg v σ H Q := fun pins s u I r => h.run pins s σ H v u Q I r q
theorem wpgs_of {tg : List Expr} {t : TGs} (h : PGs X tg t) {v : List V} {Q : L2.St → Hp → Prop} (q : t v σ H Q) : wpgs X tg v σ H Q := fun pins s u I r => h.run pins s σ H v u Q I r q
theorem wpts_of {tg : List Expr} {t : TT} (h : PTs X tg t) {Q : Bool → Hp → Prop} (q : t σ H Q) : wpts X tg σ H Q := fun pins s I => h.run pins s σ H Q I q
theorem wpo_of {e : Option Expr} {t : TO} (h : PO X e t) {Q : Option Int → Hp → Prop} (q : t σ H Q) : wpo X e σ H Q := fun pins s I => h.run pins s σ H Q I q
end

abbrev PK := PyData → GS → Prop
structure Xe (X : Cx) (C : GC) (e : Expr) (Γ : GS) (Φ : PyData → GS → Prop) : Prop where
  run : ∀ (B H : Hp) (σ : L2.St), Rel X.K C B H σ Γ → ∀ Q : VK, (∀ v B' H' Γ' d, Same B B' → Rel X.K C B' H' σ Γ' → Dp X.K B' v d → Φ d Γ' → Q v H') → wpe X e σ H Q
structure Xt (X : Cx) (C : GC) (e : Expr) (Γ : GS) (Φ : Bool → GS → Prop) : Prop where
  run : ∀ (B H : Hp) (σ : L2.St), Rel X.K C B H σ Γ → ∀ Q : Bool → Hp → Prop, (∀ b B' H' Γ', Same B B' → Rel X.K C B' H' σ Γ' → Φ b Γ' → Q b H') → wpt X e σ H Q
structure Xw (X : Cx) (C : GC) (e : Expr) (Γ : GS) (Φ : Bool → GS → Prop) : Prop where
  run : ∀ (B H : Hp) (σ : L2.St), Rel X.K C B H σ Γ → ∀ Q : Bool → Hp → Prop, (∀ b B' H' Γ', Same B B' → Rel X.K C B' H' σ Γ' → Φ b Γ' → Q b H') → wpw X e σ H Q
structure Xts (X : Cx) (C : GC) (e : List Expr) (Γ : GS) (Φ : Bool → GS → Prop) : Prop where
  run : ∀ (B H : Hp) (σ : L2.St), Rel X.K C B H σ Γ → ∀ Q : Bool → Hp → Prop, (∀ b B' H' Γ', Same B B' → Rel X.K C B' H' σ Γ' → Φ b Γ' → Q b H') → wpts X e σ H Q
structure Xa (X : Cx) (C : GC) (es : List Expr) (Γ : GS) (Φ : List PyData → GS → Prop) : Prop where
  run : ∀ (B H : Hp) (σ : L2.St), Rel X.K C B H σ Γ → ∀ Q : List V → Hp → Prop, (∀ vs B' H' Γ' ds, Same B B' → Rel X.K C B' H' σ Γ' → DpAll X.K B' vs ds → Φ ds Γ' → Q vs H') → wpa X es σ H Q
structure Xo (X : Cx) (C : GC) (e : Option Expr) (Γ : GS) (Φ : Option Int → GS → Prop) : Prop where
  run : ∀ (B H : Hp) (σ : L2.St), Rel X.K C B H σ Γ → ∀ Q : Option Int → Hp → Prop, (∀ o B' H' Γ', Same B B' → Rel X.K C B' H' σ Γ' → Φ o Γ' → Q o H') → wpo X e σ H Q
/-- a list that is just made, nobody else's -/
structure Xm (X : Cx) (C : GC) (e : Expr) (Γ : GS) (Φ : List PyData → GS → Prop) : Prop where
  run : ∀ (B H : Hp) (σ : L2.St), Rel X.K C B H σ Γ → ∀ Q : VK, (∀ p vs B' H0 Γ' ds, Same B B' → Rel X.K C B' H0 σ Γ' → H0 p = none → DpAll X.K B' vs ds → Φ ds Γ' → Q (.ref p) (upd H0 p (.lst vs))) → wpe X e σ H Q
/-- a dict that is just made -/
structure Xd (X : Cx) (C : GC) (e : Expr) (Γ : GS) (Φ : List (Key × PyData) → GS → Prop) : Prop where
  run : ∀ (B H : Hp) (σ : L2.St), Rel X.K C B H σ Γ → ∀ Q : VK, (∀ p ws B' H0 Γ' ks, Same B B' → Rel X.K C B' H0 σ Γ' → H0 p = none → KvRel X.K B' ks ws → Φ ks Γ' → Q (.ref p) (upd H0 p (.dK ws))) → wpe X e σ H Q
structure Xs (X : Cx) (C : GC) (st : Stmt) (Γ : GS) (N : GS → Prop) (R : PyData → GS → Prop) : Prop where
  run : ∀ (B H : Hp) (σ : L2.St), Rel X.K C B H σ Γ → ∀ D : Ends, (∀ B' H' σ' Γ', Same B B' → Rel X.K C B' H' σ' Γ' → N Γ' → D.nx σ' H') →
    (∀ v B' H' σ' Γ' d, Same B B' → Rel X.K C B' H' σ' Γ' → Dp X.K B' v d → R d Γ' → D.rt v H') → wps X st D σ H
structure Xb (X : Cx) (C : GC) (st : List Stmt) (Γ : GS) (N : GS → Prop) (R : PyData → GS → Prop) : Prop where
  run : ∀ (B H : Hp) (σ : L2.St), Rel X.K C B H σ Γ → ∀ D : Ends, (∀ B' H' σ' Γ', Same B B' → Rel X.K C B' H' σ' Γ' → N Γ' → D.nx σ' H') →
    (∀ v B' H' σ' Γ' d, Same B B' → Rel X.K C B' H' σ' Γ' → Dp X.K B' v d → R d Γ' → D.rt v H') → wpb X st D σ H
/-- a target is given data; the slots vs alone are changed -/
structure Xg (X : Cx) (C : GC) (tg : Expr) (vs : List Nat) (d : PyData) (Γ : GS) (Φ : GS → Prop) : Prop where
  run : ∀ (B H : Hp) (σ : L2.St) (v : V), Rel X.K C B H σ Γ → Dp X.K B v d → ∀ Q : L2.St → Hp → Prop, (∀ σ' Γ', Rel X.K C B H σ' Γ' → (∀ i, i ∉ vs → σ'[i]? = σ[i]?) → σ'.length = σ.length → Φ Γ' → Q σ' H) → wpg X tg v σ H Q
structure Xgs (X : Cx) (C : GC) (tg : List Expr) (vs : List Nat) (ds : List PyData) (Γ : GS) (Φ : GS → Prop) : Prop where
  run : ∀ (B H : Hp) (σ : L2.St) (v : List V), Rel X.K C B H σ Γ → DpAll X.K B v ds → ∀ Q : L2.St → Hp → Prop, (∀ σ' Γ', Rel X.K C B H σ' Γ' → (∀ i, i ∉ vs → σ'[i]? = σ[i]?) → σ'.length = σ.length → Φ Γ' → Q σ' H) → wpgs X tg v σ H Q

section
variable {X : Cx} {C : GC} {Γ Γ' : GS}
theorem Xe.mono {e : Expr} {Φ Ψ : PK} (h : Xe X C e Γ Φ) (i : ∀ d Γ', Φ d Γ' → Ψ d Γ') : Xe X C e Γ Ψ := ⟨fun B H σ R Q k => h.run B H σ R Q fun v B' H' Γ' d s R' hd q => k v B' H' Γ' d s R' hd (i _ _ q)⟩
theorem Xm.mono {e : Expr} {Φ Ψ : List PyData → GS → Prop} (h : Xm X C e Γ Φ) (i : ∀ d Γ', Φ d Γ' → Ψ d Γ') : Xm X C e Γ Ψ := ⟨fun B H σ R Q k => h.run B H σ R Q fun p vs B' H' Γ' d s R' hp hd q => k p vs B' H' Γ' d s R' hp hd (i _ _ q)⟩
theorem Xt.mono {e : Expr} {Φ Ψ : Bool → GS → Prop} (h : Xt X C e Γ Φ) (i : ∀ d Γ', Φ d Γ' → Ψ d Γ') : Xt X C e Γ Ψ := ⟨fun B H σ R Q k => h.run B H σ R Q fun b B' H' Γ' s R' q => k b B' H' Γ' s R' (i _ _ q)⟩
theorem Xa.mono {es : List Expr} {Φ Ψ : List PyData → GS → Prop} (h : Xa X C es Γ Φ) (i : ∀ d Γ', Φ d Γ' → Ψ d Γ') : Xa X C es Γ Ψ := ⟨fun B H σ R Q k => h.run B H σ R Q fun v B' H' Γ' d s R' hd q => k v B' H' Γ' d s R' hd (i _ _ q)⟩
theorem Xs.mono {st : Stmt} {N M : GS → Prop} {R R2 : PyData → GS → Prop} (h : Xs X C st Γ N R) (i : ∀ Γ', N Γ' → M Γ') (j : ∀ d Γ', R d Γ' → R2 d Γ') : Xs X C st Γ M R2 :=
  ⟨fun B H σ Rl D k1 k2 => h.run B H σ Rl D (fun B' H' σ' Γ' s R' q => k1 B' H' σ' Γ' s R' (i _ q)) fun v B' H' σ' Γ' d s R' hd q => k2 v B' H' σ' Γ' d s R' hd (j _ _ q)⟩
theorem Xb.mono {st : List Stmt} {N M : GS → Prop} {R R2 : PyData → GS → Prop} (h : Xb X C st Γ N R) (i : ∀ Γ', N Γ' → M Γ') (j : ∀ d Γ', R d Γ' → R2 d Γ') : Xb X C st Γ M R2 :=
  ⟨fun B H σ Rl D k1 k2 => h.run B H σ Rl D (fun B' H' σ' Γ' s R' q => k1 B' H' σ' Γ' s R' (i _ q)) fun v B' H' σ' Γ' d s R' hd q => k2 v B' H' σ' Γ' d s R' hd (j _ _ q)⟩

/-! ### names and constants -/
theorem xe_var (i : Nat) {x : Str} {pos : Pos} {d : PyData} {Φ : PK} (hg : Γ[i]? = some (.val d)) (h : Φ d Γ) (hN : X.N[i]? = some x := by rfl)
    (hv : Vis X.env.scope x := by first | exact Or.inl rfl | exact Or.inr (Or.inl rfl) | exact Or.inr (Or.inr rfl)) (hd : (x == ("__debug__" : Str)) = false := by decide) (hcd : (x == ("__classdict__" : Str)) = false := by decide) : Xe X C (.Name x pos) Γ Φ :=
  ⟨fun B H σ R Q k => by
    obtain ⟨v, e, z⟩ := R.val hg
    exact wpe_of (pe_var hN hv hd hcd) ⟨v, e, k v B H Γ d (Same.refl _) R z h⟩⟩
/-- a name's own list, data from now on -/
theorem xe_frz (i : Nat) {x : Str} {pos : Pos} {ds : List PyData} {Φ : PK} (hg : Γ[i]? = some (.lst ds)) (hf : ∀ q ∈ C.ps, q.1 ≠ i) (h : Φ (.list ds) (Γ.set i (.val (.list ds)))) (hN : X.N[i]? = some x := by rfl)
    (hv : Vis X.env.scope x := by first | exact Or.inl rfl | exact Or.inr (Or.inl rfl) | exact Or.inr (Or.inr rfl)) (hd : (x == ("__debug__" : Str)) = false := by decide) (hcd : (x == ("__classdict__" : Str)) = false := by decide) : Xe X C (.Name x pos) Γ Φ :=
  ⟨fun B H σ R Q k => by
    obtain ⟨p, B', e, s, z, R'⟩ := R.freeze hg hf
    exact wpe_of (pe_var hN hv hd hcd) ⟨_, e, k _ B' H _ _ s R' z h⟩⟩
theorem xe_int {i : Int} {j pos} {Φ : PK} (h : Φ (.int i) Γ) : Xe X C (.Constant (.int i) j pos) Γ Φ := ⟨fun B H σ R Q k => wpe_of pe_int (k _ B H Γ _ (Same.refl _) R (.int i) h)⟩
theorem xe_bool {b : Bool} {j pos} {Φ : PK} (h : Φ (.bool b) Γ) : Xe X C (.Constant (.bool b) j pos) Γ Φ := ⟨fun B H σ R Q k => wpe_of pe_bl (k _ B H Γ _ (Same.refl _) R (.bl b) h)⟩
theorem xe_none {j pos} {Φ : PK} (h : Φ .none Γ) : Xe X C (.Constant .none j pos) Γ Φ := ⟨fun B H σ R Q k => wpe_of pe_non (k _ B H Γ _ (Same.refl _) R .non h)⟩
theorem xe_str {x : Str} {j pos} {Φ : PK} (h : Φ (.str x) Γ) : Xe X C (.Constant (.str x) j pos) Γ Φ := ⟨fun B H σ R Q k => wpe_of pe_str (k _ B H Γ _ (Same.refl _) R (.str x) h)⟩
/-- a constant of the module -/
theorem xe_glob {x : Str} {v : V} {u : Value} {d : PyData} {pos : Pos} {Φ : PK} (hm : X.mg x = some u) (r : RelV v u) (hd : ∀ B, Dp X.K B v d) (h : Φ d Γ) (hg : Gl X x := by rfl) (hdb : (x == ("__debug__" : Str)) = false := by decide) : Xe X C (.Name x pos) Γ Φ :=
  ⟨fun B H σ R Q k => wpe_of (pe_glob hg hm r hdb) (k _ B H Γ _ (Same.refl _) R (hd B) h)⟩

/-! ### operators -/
section
variable {a b c : Expr} {pos : Pos} {Φ : PK}
theorem xe_bin {op : Operator} {r : R2} (ho : OpR X (binaryOp op) r) (h : Xe X C a Γ fun x Γ1 => Xe X C b Γ1 fun y Γ2 => ∀ v w B H σ (Q : VK), Rel X.K C B H σ Γ2 → Dp X.K B v x → Dp X.K B w y →
    (∀ u B' H' Γ' d, Same B B' → Rel X.K C B' H' σ Γ' → Dp X.K B' u d → Φ d Γ' → Q u H') → r v w H Q) : Xe X C (.BinOp a op b pos) Γ Φ :=
  ⟨fun B H σ R Q k => wpe_of (pe_op ho pe_w pe_w) (h.run B H σ R _ fun v B1 H1 Γ1 x s1 R1 dx hx => hx.run B1 H1 σ R1 _ fun w B2 H2 Γ2 y s2 R2 dy hr => hr v w B2 H2 σ Q R2 (dp_mono s2 _ _ dx) dy fun u B' H' Γ' d s3 R3 du q => k u B' H' Γ' d ((s1.trans s2).trans s3) R3 du q)⟩
theorem xe_opI {op : Operator} {Cc : Int → Int → Prop} {g : Int → Int → Int} (ho : OpR X (binaryOp op) (rI Cc fun i j => .int (g i j)))
    (h : Xe X C a Γ fun x Γ1 => Xe X C b Γ1 fun y Γ2 => ∃ i j, x = .int i ∧ y = .int j ∧ Cc i j ∧ Φ (.int (g i j)) Γ2) : Xe X C (.BinOp a op b pos) Γ Φ :=
  xe_bin ho (h.mono fun x Γ1 hb => hb.mono fun y Γ2 ⟨i, j, ex, ey, hc, hq⟩ v w B H σ Q R dv dw k => by
    subst ex ey
    cases dp_int dv
    cases dp_int dw
    exact ⟨i, j, rfl, rfl, hc, k _ B H Γ2 _ (Same.refl _) R (.int _) hq⟩)
theorem xe_opI0 {op : Operator} {g : Int → Int → Int} (ho : OpR X (binaryOp op) (rI0 fun i j => .int (g i j)))
    (h : Xe X C a Γ fun x Γ1 => Xe X C b Γ1 fun y Γ2 => ∃ i j, x = .int i ∧ y = .int j ∧ Φ (.int (g i j)) Γ2) : Xe X C (.BinOp a op b pos) Γ Φ :=
  xe_bin ho (h.mono fun x Γ1 hb => hb.mono fun y Γ2 ⟨i, j, ex, ey, hq⟩ v w B H σ Q R dv dw k => by
    subst ex ey
    cases dp_int dv
    cases dp_int dw
    exact ⟨i, j, rfl, rfl, k _ B H Γ2 _ (Same.refl _) R (.int _) hq⟩)
theorem xe_add (h : Xe X C a Γ fun x Γ1 => Xe X C b Γ1 fun y Γ2 => ∃ i j, x = .int i ∧ y = .int j ∧ Φ (.int (i + j)) Γ2) : Xe X C (.BinOp a .Add b pos) Γ Φ := xe_opI0 op_add h
theorem xe_sub (h : Xe X C a Γ fun x Γ1 => Xe X C b Γ1 fun y Γ2 => ∃ i j, x = .int i ∧ y = .int j ∧ Φ (.int (i - j)) Γ2) : Xe X C (.BinOp a .Sub b pos) Γ Φ := xe_opI0 op_sub h
theorem xe_mul (h : Xe X C a Γ fun x Γ1 => Xe X C b Γ1 fun y Γ2 => ∃ i j, x = .int i ∧ y = .int j ∧ CMul i j ∧ Φ (.int (i * j)) Γ2) : Xe X C (.BinOp a .Mult b pos) Γ Φ := xe_opI op_mul h
theorem xe_fdiv (h : Xe X C a Γ fun x Γ1 => Xe X C b Γ1 fun y Γ2 => ∃ i j, x = .int i ∧ y = .int j ∧ CDiv i j ∧ Φ (.int (i / j)) Γ2) : Xe X C (.BinOp a .FloorDiv b pos) Γ Φ := xe_opI op_fdiv h
theorem xe_mod (h : Xe X C a Γ fun x Γ1 => Xe X C b Γ1 fun y Γ2 => ∃ i j, x = .int i ∧ y = .int j ∧ 0 < j ∧ Φ (.int (i % j)) Γ2) : Xe X C (.BinOp a .Mod b pos) Γ Φ := xe_opI op_mod h
/-- t + u -/
theorem xe_catT (h : Xe X C a Γ fun x Γ1 => Xe X C b Γ1 fun y Γ2 => ∃ xs ys, x = .tuple xs ∧ y = .tuple ys ∧ xs.length + ys.length ≤ 1000000 ∧ Φ (.tuple (xs ++ ys)) Γ2) : Xe X C (.BinOp a .Add b pos) Γ Φ :=
  xe_bin op_catA (h.mono fun x Γ1 hb => hb.mono fun y Γ2 ⟨xs, ys, ex, ey, hl, hq⟩ v w B H σ Q R dv dw k => by
    subst ex ey
    obtain ⟨a1, vs, rfl, h1, h2⟩ := dp_tup dv
    obtain ⟨a2, ws, rfl, h3, h4⟩ := dp_tup dw
    have l1 := dpAll_len h2
    have l2 := dpAll_len h4
    refine ⟨a1, a2, vs, ws, rfl, rfl, sqT_mono R.bh h1, sqT_mono R.bh h3, by rw [l1, l2, PySem.sizeLine_eq]; omega, fun e => ?_, fun e1 e2 => ?_, fun e1 e2 p hp => ?_⟩
    · subst e
      have : xs = [] := List.eq_nil_of_length_eq_zero (by rw [← l1]; rfl)
      subst this
      exact k _ B H Γ2 _ (Same.refl _) R dw hq
    · subst e2
      have : ys = [] := List.eq_nil_of_length_eq_zero (by rw [← l2]; rfl)
      subst this
      refine k _ B H Γ2 _ (Same.refl _) R dv (by simpa using hq)
    · exact k _ (upd B p (.tup (vs ++ ws))) _ Γ2 _ (same_upd (R.bnone hp)) (R.new hp) (.tup (SqT.of upd_same) (dpAll_mono (same_upd (R.bnone hp)) _ _ (dpAll_app h2 h4))) hq)
theorem xe_neg (h : Xe X C a Γ fun x Γ1 => ∃ i, x = .int i ∧ Φ (.int (-i)) Γ1) : Xe X C (.UnaryOp .USub a pos) Γ Φ :=
  ⟨fun B H σ R Q k => wpe_of (pe_un un_neg pe_w) (h.run B H σ R _ fun v B1 H1 Γ1 x s1 R1 dx ⟨i, ex, hq⟩ => by
    subst ex
    cases dp_int dx
    exact ⟨i, rfl, k _ B1 H1 Γ1 _ s1 R1 (.int _) hq⟩)⟩

/-! ### comparisons -/
theorem xe_cmp {op : CmpOp} {r : R2} (ho : OpR X (compareOp op) r) (hm : behindInMarks op b = false) (h : Xe X C a Γ fun x Γ1 => Xe X C b Γ1 fun y Γ2 => ∀ v w B H σ (Q : VK), Rel X.K C B H σ Γ2 → Dp X.K B v x → Dp X.K B w y →
    (∀ u B' H' Γ' d, Same B B' → Rel X.K C B' H' σ Γ' → Dp X.K B' u d → Φ d Γ' → Q u H') → r v w H Q) : Xe X C (.Compare a [op] [b] pos) Γ Φ :=
  ⟨fun B H σ R Q k => wpe_of (pe_cmpR ho pe_w pe_w hm) (h.run B H σ R _ fun v B1 H1 Γ1 x s1 R1 dx hx => hx.run B1 H1 σ R1 _ fun w B2 H2 Γ2 y s2 R2 dy hr => hr v w B2 H2 σ Q R2 (dp_mono s2 _ _ dx) dy fun u B' H' Γ' d s3 R3 du q => k u B' H' Γ' d ((s1.trans s2).trans s3) R3 du q)⟩
theorem xt_cmp {op : CmpOp} {r : R2} {Ψ : Bool → GS → Prop} (ho : OpR X (compareOp op) r) (hm : behindInMarks op b = false) (h : Xe X C a Γ fun x Γ1 => Xe X C b Γ1 fun y Γ2 => ∀ v w B H σ (Q : Bool → Hp → Prop), Rel X.K C B H σ Γ2 → Dp X.K B v x → Dp X.K B w y →
    (∀ u B' H' Γ', Same B B' → Rel X.K C B' H' σ Γ' → Ψ u Γ' → Q u H') → r v w H fun x H' => ∃ k, x = .bl k ∧ Q k H') : Xt X C (.Compare a [op] [b] pos) Γ Ψ :=
  ⟨fun B H σ R Q k => wpt_of (pt_cmpR ho pe_w pe_w hm) (h.run B H σ R _ fun v B1 H1 Γ1 x s1 R1 dx hx => hx.run B1 H1 σ R1 _ fun w B2 H2 Γ2 y s2 R2 dy hr => hr v w B2 H2 σ Q R2 (dp_mono s2 _ _ dx) dy fun u B' H' Γ' s3 R3 q => k u B' H' Γ' ((s1.trans s2).trans s3) R3 q)⟩
/-- a rule of two ints that gives a truth value -/
theorem xt_cI {op : CmpOp} {g : Int → Int → Bool} {Ψ : Bool → GS → Prop} (ho : OpR X (compareOp op) (rI0 fun i j => .bl (g i j))) (hm : behindInMarks op b = false)
    (h : Xe X C a Γ fun x Γ1 => Xe X C b Γ1 fun y Γ2 => ∃ i j, x = .int i ∧ y = .int j ∧ Ψ (g i j) Γ2) : Xt X C (.Compare a [op] [b] pos) Γ Ψ :=
  xt_cmp ho hm (h.mono fun x Γ1 hb => hb.mono fun y Γ2 ⟨i, j, ex, ey, hq⟩ v w B H σ Q R dv dw k => by
    subst ex ey
    cases dp_int dv
    cases dp_int dw
    exact ⟨i, j, rfl, rfl, _, rfl, k _ B H Γ2 (Same.refl _) R hq⟩)
theorem xe_cI {op : CmpOp} {g : Int → Int → Bool} (ho : OpR X (compareOp op) (rI0 fun i j => .bl (g i j))) (hm : behindInMarks op b = false)
    (h : Xe X C a Γ fun x Γ1 => Xe X C b Γ1 fun y Γ2 => ∃ i j, x = .int i ∧ y = .int j ∧ Φ (.bool (g i j)) Γ2) : Xe X C (.Compare a [op] [b] pos) Γ Φ :=
  xe_cmp ho hm (h.mono fun x Γ1 hb => hb.mono fun y Γ2 ⟨i, j, ex, ey, hq⟩ v w B H σ Q R dv dw k => by
    subst ex ey
    cases dp_int dv
    cases dp_int dw
    exact ⟨i, j, rfl, rfl, k _ B H Γ2 _ (Same.refl _) R (.bl _) hq⟩)
variable {Ψ : Bool → GS → Prop}
theorem xt_lt (h : Xe X C a Γ fun x Γ1 => Xe X C b Γ1 fun y Γ2 => ∃ i j, x = .int i ∧ y = .int j ∧ Ψ (decide (i < j)) Γ2) : Xt X C (.Compare a [.Lt] [b] pos) Γ Ψ := xt_cI op_lt (nomark _) h
theorem xt_le (h : Xe X C a Γ fun x Γ1 => Xe X C b Γ1 fun y Γ2 => ∃ i j, x = .int i ∧ y = .int j ∧ Ψ (decide (i ≤ j)) Γ2) : Xt X C (.Compare a [.LtE] [b] pos) Γ Ψ := xt_cI op_le (nomark _) h
theorem xt_gt (h : Xe X C a Γ fun x Γ1 => Xe X C b Γ1 fun y Γ2 => ∃ i j, x = .int i ∧ y = .int j ∧ Ψ (decide (j < i)) Γ2) : Xt X C (.Compare a [.Gt] [b] pos) Γ Ψ := xt_cI op_gt (nomark _) h
theorem xt_ge (h : Xe X C a Γ fun x Γ1 => Xe X C b Γ1 fun y Γ2 => ∃ i j, x = .int i ∧ y = .int j ∧ Ψ (decide (j ≤ i)) Γ2) : Xt X C (.Compare a [.GtE] [b] pos) Γ Ψ := xt_cI op_ge (nomark _) h
theorem xe_lt (h : Xe X C a Γ fun x Γ1 => Xe X C b Γ1 fun y Γ2 => ∃ i j, x = .int i ∧ y = .int j ∧ Φ (.bool (decide (i < j))) Γ2) : Xe X C (.Compare a [.Lt] [b] pos) Γ Φ := xe_cI op_lt (nomark _) h
theorem xe_le (h : Xe X C a Γ fun x Γ1 => Xe X C b Γ1 fun y Γ2 => ∃ i j, x = .int i ∧ y = .int j ∧ Φ (.bool (decide (i ≤ j))) Γ2) : Xe X C (.Compare a [.LtE] [b] pos) Γ Φ := xe_cI op_le (nomark _) h
theorem xe_gt (h : Xe X C a Γ fun x Γ1 => Xe X C b Γ1 fun y Γ2 => ∃ i j, x = .int i ∧ y = .int j ∧ Φ (.bool (decide (j < i))) Γ2) : Xe X C (.Compare a [.Gt] [b] pos) Γ Φ := xe_cI op_gt (nomark _) h
theorem xe_ge (h : Xe X C a Γ fun x Γ1 => Xe X C b Γ1 fun y Γ2 => ∃ i j, x = .int i ∧ y = .int j ∧ Φ (.bool (decide (j ≤ i))) Γ2) : Xe X C (.Compare a [.GtE] [b] pos) Γ Φ := xe_cI op_ge (nomark _) h
/-- two ints, two truth values, two texts: equal? -/
theorem xt_eqI (h : Xe X C a Γ fun x Γ1 => Xe X C b Γ1 fun y Γ2 => ∃ i j, x = .int i ∧ y = .int j ∧ Ψ (decide (i = j)) Γ2) : Xt X C (.Compare a [.Eq] [b] pos) Γ Ψ :=
  xt_cmp op_eq (nomark _) (h.mono fun x Γ1 hb => hb.mono fun y Γ2 ⟨i, j, ex, ey, hq⟩ v w B H σ Q R dv dw k => by
    subst ex ey
    cases dp_int dv
    cases dp_int dw
    exact ⟨rfl, _, rfl, k _ B H Γ2 (Same.refl _) R (by simpa using hq)⟩)
theorem xt_neI (h : Xe X C a Γ fun x Γ1 => Xe X C b Γ1 fun y Γ2 => ∃ i j, x = .int i ∧ y = .int j ∧ Ψ (!decide (i = j)) Γ2) : Xt X C (.Compare a [.NotEq] [b] pos) Γ Ψ :=
  xt_cmp op_ne (nomark _) (h.mono fun x Γ1 hb => hb.mono fun y Γ2 ⟨i, j, ex, ey, hq⟩ v w B H σ Q R dv dw k => by
    subst ex ey
    cases dp_int dv
    cases dp_int dw
    exact ⟨rfl, _, rfl, k _ B H Γ2 (Same.refl _) R (by simpa using hq)⟩)
theorem xe_eqI (h : Xe X C a Γ fun x Γ1 => Xe X C b Γ1 fun y Γ2 => ∃ i j, x = .int i ∧ y = .int j ∧ Φ (.bool (decide (i = j))) Γ2) : Xe X C (.Compare a [.Eq] [b] pos) Γ Φ :=
  xe_cmp op_eq (nomark _) (h.mono fun x Γ1 hb => hb.mono fun y Γ2 ⟨i, j, ex, ey, hq⟩ v w B H σ Q R dv dw k => by
    subst ex ey
    cases dp_int dv
    cases dp_int dw
    exact ⟨rfl, k _ B H Γ2 _ (Same.refl _) R (.bl _) (by simpa using hq)⟩)
theorem xt_eqS (h : Xe X C a Γ fun x Γ1 => Xe X C b Γ1 fun y Γ2 => ∃ i j, x = .str i ∧ y = .str j ∧ Ψ (decide (i = j)) Γ2) : Xt X C (.Compare a [.Eq] [b] pos) Γ Ψ :=
  xt_cmp op_eq (nomark _) (h.mono fun x Γ1 hb => hb.mono fun y Γ2 ⟨i, j, ex, ey, hq⟩ v w B H σ Q R dv dw k => by
    subst ex ey
    cases dp_str dv
    cases dp_str dw
    exact ⟨rfl, _, rfl, k _ B H Γ2 (Same.refl _) R (by simpa using hq)⟩)
theorem xt_neS (h : Xe X C a Γ fun x Γ1 => Xe X C b Γ1 fun y Γ2 => ∃ i j, x = .str i ∧ y = .str j ∧ Ψ (!decide (i = j)) Γ2) : Xt X C (.Compare a [.NotEq] [b] pos) Γ Ψ :=
  xt_cmp op_ne (nomark _) (h.mono fun x Γ1 hb => hb.mono fun y Γ2 ⟨i, j, ex, ey, hq⟩ v w B H σ Q R dv dw k => by
    subst ex ey
    cases dp_str dv
    cases dp_str dw
    exact ⟨rfl, _, rfl, k _ B H Γ2 (Same.refl _) R (by simpa using hq)⟩)
/-- data of any depth -/
theorem xt_eqD (hu : X.A.units + 64 < cLine) (h : Xe X C a Γ fun x Γ1 => Xe X C b Γ1 fun y Γ2 => SeqAt.shaped x = true ∧ SeqAt.shaped y = true ∧ Ψ (PyData.eqv x y) Γ2) : Xt X C (.Compare a [.Eq] [b] pos) Γ Ψ :=
  xt_cmp (op_eqD hu) (nomark _) (h.mono fun x Γ1 hb => hb.mono fun y Γ2 ⟨h1, h2, hq⟩ v w B H σ Q R dv dw k =>
    ⟨x, y, dp_mono R.bh _ _ dv, dp_mono R.bh _ _ dw, h1, h2, _, rfl, k _ B H Γ2 (Same.refl _) R hq⟩)
theorem xt_neD (hu : X.A.units + 64 < cLine) (h : Xe X C a Γ fun x Γ1 => Xe X C b Γ1 fun y Γ2 => SeqAt.shaped x = true ∧ SeqAt.shaped y = true ∧ Ψ (!PyData.eqv x y) Γ2) : Xt X C (.Compare a [.NotEq] [b] pos) Γ Ψ :=
  xt_cmp (op_neD hu) (nomark _) (h.mono fun x Γ1 hb => hb.mono fun y Γ2 ⟨h1, h2, hq⟩ v w B H σ Q R dv dw k =>
    ⟨x, y, dp_mono R.bh _ _ dv, dp_mono R.bh _ _ dw, h1, h2, _, rfl, k _ B H Γ2 (Same.refl _) R hq⟩)
theorem xe_eqD (hu : X.A.units + 64 < cLine) (h : Xe X C a Γ fun x Γ1 => Xe X C b Γ1 fun y Γ2 => SeqAt.shaped x = true ∧ SeqAt.shaped y = true ∧ Φ (.bool (PyData.eqv x y)) Γ2) : Xe X C (.Compare a [.Eq] [b] pos) Γ Φ :=
  xe_cmp (op_eqD hu) (nomark _) (h.mono fun x Γ1 hb => hb.mono fun y Γ2 ⟨h1, h2, hq⟩ v w B H σ Q R dv dw k =>
    ⟨x, y, dp_mono R.bh _ _ dv, dp_mono R.bh _ _ dw, h1, h2, k _ B H Γ2 _ (Same.refl _) R (.bl _) hq⟩)
def isNo : PyData → Bool
  | .none => true
  | _ => false
theorem dp_isNo {K : PySem.W.Frag} {B : Hp} {v : V} {d : PyData} (h : Dp K B v d) : decide (v = .non) = isNo d := by
  cases h <;> simp [isNo]
theorem xt_isN {j pos'} (h : Xe X C a Γ fun x Γ1 => Ψ (isNo x) Γ1) : Xt X C (.Compare a [.Is] [.Constant .none j pos'] pos) Γ Ψ :=
  xt_cmp op_isN (nomark _) (h.mono fun x Γ1 hq => xe_none fun v w B H σ Q R dv dw k => ⟨dp_none dw, _, rfl, k _ B H Γ1 (Same.refl _) R (by rw [dp_isNo dv]; exact hq)⟩)
theorem xt_notN {j pos'} (h : Xe X C a Γ fun x Γ1 => Ψ (!isNo x) Γ1) : Xt X C (.Compare a [.IsNot] [.Constant .none j pos'] pos) Γ Ψ :=
  xt_cmp op_notN (nomark _) (h.mono fun x Γ1 hq => xe_none fun v w B H σ Q R dv dw k => ⟨dp_none dw, _, rfl, k _ B H Γ1 (Same.refl _) R (by rw [dp_isNo dv]; exact hq)⟩)
theorem xe_isN {j pos'} (h : Xe X C a Γ fun x Γ1 => Φ (.bool (isNo x)) Γ1) : Xe X C (.Compare a [.Is] [.Constant .none j pos'] pos) Γ Φ :=
  xe_cmp op_isN (nomark _) (h.mono fun x Γ1 hq => xe_none fun v w B H σ Q R dv dw k => ⟨dp_none dw, k _ B H Γ1 _ (Same.refl _) R (.bl _) (by rw [dp_isNo dv]; exact hq)⟩)
/-- a <= b <= c -/
theorem xt_chainLe (h : Xe X C a Γ fun x Γ1 => Xe X C b Γ1 fun y Γ2 => ∃ i j, x = .int i ∧ y = .int j ∧ (¬ i ≤ j → Ψ false Γ2) ∧ (i ≤ j → Xe X C c Γ2 fun z Γ3 => ∃ l, z = .int l ∧ Ψ (decide (j ≤ l)) Γ3))
    (hm : lastMarks [.LtE, .LtE] [b, c] = false := by with_unfolding_all rfl) : Xt X C (.Compare a [.LtE, .LtE] [b, c] pos) Γ Ψ :=
  ⟨fun B H σ R Q k => wpt_of (pt_chain op_le op_le pe_w pe_w pe_w hm) (h.run B H σ R _ fun v B1 H1 Γ1 x s1 R1 dx hx => hx.run B1 H1 σ R1 _ fun w B2 H2 Γ2 y s2 R2 dy ⟨i, j, ex, ey, h1, h2⟩ => by
    subst ex ey
    cases dp_int dx
    cases dp_int dy
    refine ⟨i, j, rfl, rfl, _, rfl, ite2 (fun e => ?_) fun e => ?_⟩
    · refine (h2 (by simpa using e)).run B2 H2 σ R2 _ fun u B3 H3 Γ3 z s3 R3 dz ⟨l, ez, hq⟩ => ?_
      subst ez
      cases dp_int dz
      exact ⟨j, l, rfl, rfl, _, rfl, k _ B3 H3 Γ3 ((s1.trans s2).trans s3) R3 hq⟩
    · exact ⟨_, rfl, k _ B2 H2 Γ2 (s1.trans s2) R2 (h1 (by simpa using e))⟩)⟩

/-! ### tests, truth -/
theorem xt_val (h : Xe X C a Γ fun x Γ1 => ∃ k, x = .bool k ∧ Ψ k Γ1) (he : ∀ whole, isTrue a X.env whole = (do let v ← whole; standAt a.pos; holding [v] (truthy v)) := by intro _; rfl) : Xt X C a Γ Ψ :=
  ⟨fun B H σ R Q k => wpt_of (pt_val pe_w he) (h.run B H σ R _ fun v B1 H1 Γ1 x s1 R1 dx ⟨c, ex, hq⟩ => by
    subst ex
    cases dp_bool dx
    exact ⟨c, rfl, k _ B1 H1 Γ1 s1 R1 hq⟩)⟩
theorem xt_not (h : Xt X C a Γ fun k Γ1 => Ψ (!k) Γ1) : Xt X C (.UnaryOp .Not a pos) Γ Ψ :=
  ⟨fun B H σ R Q k => wpt_of (pt_not pt_w) (h.run B H σ R _ fun b B1 H1 Γ1 s1 R1 hq => k _ B1 H1 Γ1 s1 R1 hq)⟩
theorem xt_w (h : Xw X C a Γ Ψ) : Xt X C a Γ Ψ := ⟨fun B H σ R Q k => wpt_of pw_w.pt (h.run B H σ R Q k)⟩
theorem xw_and1 (h : Xt X C a Γ Ψ) : Xw X C (.BoolOp .And [a] pos) Γ Ψ := ⟨fun B H σ R Q k => wpw_of (pw_and1 pt_w) (h.run B H σ R Q k)⟩
theorem xw_or1 (h : Xt X C a Γ Ψ) : Xw X C (.BoolOp .Or [a] pos) Γ Ψ := ⟨fun B H σ R Q k => wpw_of (pw_or1 pt_w) (h.run B H σ R Q k)⟩
theorem xw_and {rest : List Expr} (h : Xt X C a Γ fun k Γ1 => (k = false → Ψ false Γ1) ∧ (k = true → Xw X C (.BoolOp .And (b :: rest) pos) Γ1 Ψ)) : Xw X C (.BoolOp .And (a :: b :: rest) pos) Γ Ψ :=
  ⟨fun B H σ R Q k => wpw_of (pw_and pt_w pw_w) (h.run B H σ R _ fun c B1 H1 Γ1 s1 R1 ⟨h1, h2⟩ => by
    cases c with
    | false => exact iteF (k _ B1 H1 Γ1 s1 R1 (h1 rfl))
    | true => exact iteT ((h2 rfl).run B1 H1 σ R1 Q fun b B2 H2 Γ2 s2 R2 q => k b B2 H2 Γ2 (s1.trans s2) R2 q))⟩
theorem xw_or {rest : List Expr} (h : Xt X C a Γ fun k Γ1 => (k = true → Ψ true Γ1) ∧ (k = false → Xw X C (.BoolOp .Or (b :: rest) pos) Γ1 Ψ)) : Xw X C (.BoolOp .Or (a :: b :: rest) pos) Γ Ψ :=
  ⟨fun B H σ R Q k => wpw_of (pw_or pt_w pw_w) (h.run B H σ R _ fun c B1 H1 Γ1 s1 R1 ⟨h1, h2⟩ => by
    cases c with
    | true => exact iteT (k _ B1 H1 Γ1 s1 R1 (h1 rfl))
    | false => exact iteF ((h2 rfl).run B1 H1 σ R1 Q fun b B2 H2 Γ2 s2 R2 q => k b B2 H2 Γ2 (s1.trans s2) R2 q))⟩
theorem xe_one {op} (h : Xe X C a Γ Φ) : Xe X C (.BoolOp op [a] pos) Γ Φ := ⟨fun B H σ R Q k => wpe_of (pe_one pe_w) (h.run B H σ R Q k)⟩
theorem xe_and {rest : List Expr} (h : Xe X C a Γ fun x Γ1 => ∃ k, x = .bool k ∧ (k = false → Φ (.bool false) Γ1) ∧ (k = true → Xe X C (.BoolOp .And (b :: rest) pos) Γ1 Φ)) : Xe X C (.BoolOp .And (a :: b :: rest) pos) Γ Φ :=
  ⟨fun B H σ R Q k => wpe_of (pe_and pe_w pe_w) (h.run B H σ R _ fun v B1 H1 Γ1 x s1 R1 dx ⟨c, ex, h1, h2⟩ => by
    subst ex
    cases dp_bool dx
    refine ⟨c, rfl, ?_⟩
    cases c with
    | false => exact iteF (k _ B1 H1 Γ1 _ s1 R1 (.bl _) (h1 rfl))
    | true => exact iteT ((h2 rfl).run B1 H1 σ R1 Q fun v B2 H2 Γ2 d s2 R2 dv q => k v B2 H2 Γ2 d (s1.trans s2) R2 dv q))⟩
theorem xe_or {rest : List Expr} (h : Xe X C a Γ fun x Γ1 => ∃ k, x = .bool k ∧ (k = true → Φ (.bool true) Γ1) ∧ (k = false → Xe X C (.BoolOp .Or (b :: rest) pos) Γ1 Φ)) : Xe X C (.BoolOp .Or (a :: b :: rest) pos) Γ Φ :=
  ⟨fun B H σ R Q k => wpe_of (pe_or pe_w pe_w) (h.run B H σ R _ fun v B1 H1 Γ1 x s1 R1 dx ⟨c, ex, h1, h2⟩ => by
    subst ex
    cases dp_bool dx
    refine ⟨c, rfl, ?_⟩
    cases c with
    | true => exact iteT (k _ B1 H1 Γ1 _ s1 R1 (.bl _) (h1 rfl))
    | false => exact iteF ((h2 rfl).run B1 H1 σ R1 Q fun v B2 H2 Γ2 d s2 R2 dv q => k v B2 H2 Γ2 d (s1.trans s2) R2 dv q))⟩
/-- a if c else b -/
theorem xe_if (h : Xt X C c Γ fun k Γ1 => (k = true → Xe X C a Γ1 Φ) ∧ (k = false → Xe X C b Γ1 Φ)) : Xe X C (.IfExp c a b pos) Γ Φ :=
  ⟨fun B H σ R Q k => wpe_of (pe_ifExp pt_w pe_w pe_w) (h.run B H σ R _ fun c B1 H1 Γ1 s1 R1 ⟨h1, h2⟩ => by
    cases c with
    | true => exact iteT ((h1 rfl).run B1 H1 σ R1 Q fun v B2 H2 Γ2 d s2 R2 dv q => k v B2 H2 Γ2 d (s1.trans s2) R2 dv q)
    | false => exact iteF ((h2 rfl).run B1 H1 σ R1 Q fun v B2 H2 Γ2 d s2 R2 dv q => k v B2 H2 Γ2 d (s1.trans s2) R2 dv q))⟩
end
end
end Gh
end

section
/-! Sequences, calls of built-ins, statements, loops, comprehensions, defs. -/
namespace Gh
open PySem L2

def seqOf : PyData → Option (Bool × List PyData)
  | .list ds => some (true, ds)
  | .tuple ds => some (false, ds)
  | _ => none
section
variable {K : PySem.W.Frag} {B B' H : Hp} {C : GC} {σ : L2.St} {Γ : GS}
theorem dp_seq {v : V} {d : PyData} {b : Bool} {ds : List PyData} (h : Dp K B v d) (e : seqOf d = some (b, ds)) : ∃ a vs, v = .ref a ∧ DpAll K B vs ds ∧ ((b = true ∧ SqL K B a vs) ∨ (b = false ∧ SqT K B a vs)) := by
  cases d with
  | list es =>
    cases e
    obtain ⟨a, vs, rfl, h1, h2⟩ := dp_lst h
    exact ⟨a, vs, rfl, h2, .inl ⟨rfl, h1⟩⟩
  | tuple es =>
    cases e
    obtain ⟨a, vs, rfl, h1, h2⟩ := dp_tup h
    exact ⟨a, vs, rfl, h2, .inr ⟨rfl, h1⟩⟩
  | _ => cases e
theorem dpAll_at {vs : List V} {ds : List PyData} {k : Int} {d : PyData} (h : DpAll K B vs ds) (e : atI ds k = some d) : ∃ v, atI vs k = some v ∧ Dp K B v d := by
  unfold atI at e ⊢
  rw [dpAll_len h]
  cases q : ixN ds.length k with
  | none => rw [q] at e; cases e
  | some j =>
    rw [q] at e
    exact dpAll_get h e
/-- how data and heap grow together -/
structure Grow (B H B' H' : Hp) : Prop where
  b : Same B B'
  h : Same H H'
  bh : Same B' H'
  fr : ∀ b o, H b = some o → B b = none → B' b = none
theorem Grow.refl (bh : Same B H) : Grow B H B H := ⟨Same.refl B, Same.refl H, bh, fun _ _ _ n => n⟩
theorem Grow.rel {H' : Hp} (g : Grow B H B' H') (R : Rel K C B H σ Γ) : Rel K C B' H' σ Γ := R.grow g.b g.h g.bh g.fr
theorem Grow.new {p : Addr} {o : HO} (bh : Same B H) (hp : H p = none) : Grow B H (upd B p o) (upd H p o) :=
  ⟨same_upd (bh.free hp), same_upd hp, same_upd3 bh, fun b u e n => by rw [upd_ne (ne_of_none e hp)]; exact n⟩
end

section
variable {X : Cx} {C : GC} {Γ : GS} {a b c e : Expr} {es : List Expr} {pos p p2 : Pos} {Φ : PK}
/-! ### arguments, displays -/
theorem xa_nil {Φ : List PyData → GS → Prop} (h : Φ [] Γ) : Xa X C [] Γ Φ := ⟨fun B H σ R Q k => wpa_of pa_nil (k _ B H Γ _ (Same.refl _) R .nil h)⟩
theorem xa_cons {Φ : List PyData → GS → Prop} (h : Xe X C e Γ fun d Γ1 => Xa X C es Γ1 fun ds Γ2 => Φ (d :: ds) Γ2) (hs : starEach (e :: es) X.env = (false, eval e X.env) :: starEach es X.env := by rfl) : Xa X C (e :: es) Γ Φ :=
  ⟨fun B H σ R Q k => wpa_of (pa_cons pe_w pa_w hs) (h.run B H σ R _ fun v B1 H1 Γ1 d s1 R1 hd hx => hx.run B1 H1 σ R1 _ fun vs B2 H2 Γ2 ds s2 R2 hds q => k _ B2 H2 Γ2 _ (s1.trans s2) R2 (.cons (dp_mono s2 _ _ hd) hds) q)⟩
theorem xe_tup {x1} (h : Xa X C es Γ fun ds Γ1 => ds.length ≤ 1000000 ∧ Φ (.tuple ds) Γ1) : Xe X C (.Tuple es x1 pos) Γ Φ :=
  ⟨fun B H σ R Q k => wpe_of (pe_tup pa_w) (h.run B H σ R _ fun vs B1 H1 Γ1 ds s1 R1 hd ⟨hl, q⟩ => ⟨by rw [dpAll_len hd, PySem.sizeLine_eq]; omega, fun t ht =>
    k _ (upd B1 t (.tup vs)) _ Γ1 _ (s1.trans (same_upd (R1.bnone ht))) (R1.new ht) (.tup (SqT.of upd_same) (dpAll_mono (same_upd (R1.bnone ht)) _ _ hd)) q⟩)⟩
theorem xm_lst (h : Xa X C es Γ fun ds Γ1 => ds.length ≤ 1000000 ∧ Ψ ds Γ1) : Xm X C (.List es pos) Γ Ψ :=
  ⟨fun B H σ R Q k => wpe_of (pe_lst pa_w) (h.run B H σ R _ fun vs B1 H1 Γ1 ds s1 R1 hd ⟨hl, q⟩ => ⟨by rw [dpAll_len hd, PySem.sizeLine_eq]; omega, fun t ht => k t vs B1 H1 Γ1 ds s1 R1 ht hd q⟩)⟩
/-- a list just made, as data -/
theorem xe_m (h : Xm X C e Γ fun ds Γ1 => Φ (.list ds) Γ1) : Xe X C e Γ Φ :=
  ⟨fun B H σ R Q k => h.run B H σ R Q fun t vs B1 H1 Γ1 ds s1 R1 ht hd q =>
    k _ (upd B1 t (.lst vs)) _ Γ1 _ (s1.trans (same_upd (R1.bnone ht))) (R1.new ht) (.lst (SqL.of upd_same) (dpAll_mono (same_upd (R1.bnone ht)) _ _ hd)) q⟩

/-! ### a[i] -/
theorem xe_ix (h : Xe X C a Γ fun d Γ1 => Xe X C b Γ1 fun y Γ2 => ∃ k ds i e, seqOf d = some (k, ds) ∧ y = .int i ∧ atI ds i = some e ∧ Φ e Γ2) (hs : PlainIx b := by intro _ _; rfl) : Xe X C (.Subscript a b pos) Γ Φ :=
  ⟨fun B H σ R Q k => wpe_of (pe_ix ix_seq pe_w pe_w hs) (h.run B H σ R _ fun v B1 H1 Γ1 d s1 R1 hd hx => hx.run B1 H1 σ R1 _ fun w B2 H2 Γ2 y s2 R2 hy ⟨kk, ds, i, e, hq, ey, ha, q⟩ => by
    subst ey
    cases dp_int hy
    obtain ⟨r, vs, rfl, hds, hc⟩ := dp_seq (dp_mono s2 _ _ hd) hq
    obtain ⟨u, hu, du⟩ := dpAll_at hds ha
    rcases hc with ⟨_, hc⟩ | ⟨_, hc⟩
    · exact .inl ⟨r, vs, i, u, rfl, rfl, sqL_mono R2.bh hc, hu, k u B2 H2 Γ2 e (s1.trans s2) R2 du q⟩
    · exact .inr (.inl ⟨r, vs, i, u, rfl, rfl, sqT_mono R2.bh hc, hu, k u B2 H2 Γ2 e (s1.trans s2) R2 du q⟩))⟩
/-- xs[i], xs a name's own list -/
theorem xe_ixM (i : Nat) {x : Str} (h : Xe X C b Γ fun y Γ2 => ∃ ds k e, Γ2[i]? = some (.lst ds) ∧ y = .int k ∧ atI ds k = some e ∧ Φ e Γ2) (hg : ∃ g : List PyData, Γ[i]? = some (.lst g) := by exact ⟨_, rfl⟩) (hN : X.N[i]? = some x := by rfl)
    (hv : Vis X.env.scope x := by first | exact Or.inl rfl | exact Or.inr (Or.inl rfl) | exact Or.inr (Or.inr rfl)) (hs : PlainIx b := by intro _ _; rfl) (hd : (x == ("__debug__" : Str)) = false := by decide) (hcd : (x == ("__classdict__" : Str)) = false := by decide) :
    Xe X C (.Subscript (.Name x p2) b pos) Γ Φ :=
  ⟨fun B H σ R Q k => wpe_of (pe_ix ix_list (pe_var hN hv hd hcd) pe_w hs) (by
    obtain ⟨g, hg⟩ := hg
    obtain ⟨r, vs0, e0, _⟩ := R.lst hg
    refine ⟨_, e0, h.run B H σ R _ fun w B2 H2 Γ2 y s2 R2 hy ⟨ds, kk, e, h1, ey, ha, q⟩ => ?_⟩
    subst ey
    cases dp_int hy
    obtain ⟨r2, vs, f0, f1, _, _, f4⟩ := R2.lst h1
    rw [e0] at f0; cases f0
    obtain ⟨u, hu, du⟩ := dpAll_at f4 ha
    exact ⟨r, vs, kk, u, rfl, rfl, SqL.of f1, hu, k u B2 H2 Γ2 e s2 R2 du q⟩)⟩

/-! ### built-ins that read a sequence -/
/-- a sequence that can be read at once -/
structure Xq (X : Cx) (C : GC) (e : Expr) (Γ : GS) (Φ : Bool → List PyData → GS → Prop) : Prop where
  run : ∀ (B H : Hp) (σ : L2.St), Rel X.K C B H σ Γ → ∀ Q : VK, (∀ a vs B' H' Γ' k ds, Same B B' → Rel X.K C B' H' σ Γ' → DpAll X.K B' vs ds → ((k = true ∧ SqL X.K H' a vs) ∨ (k = false ∧ SqT X.K H' a vs)) → Φ k ds Γ' → Q (.ref a) H') → wpe X e σ H Q
theorem xq_e {Φ : Bool → List PyData → GS → Prop} (h : Xe X C e Γ fun d Γ1 => ∃ k ds, seqOf d = some (k, ds) ∧ Φ k ds Γ1) : Xq X C e Γ Φ :=
  ⟨fun B H σ R Q k => h.run B H σ R Q fun v B1 H1 Γ1 d s1 R1 hd ⟨kk, ds, hq, q⟩ => by
    obtain ⟨r, vs, rfl, hds, hc⟩ := dp_seq hd hq
    refine k r vs B1 H1 Γ1 kk ds s1 R1 hds ?_ q
    rcases hc with ⟨h1, hc⟩ | ⟨h1, hc⟩
    · exact .inl ⟨h1, sqL_mono R1.bh hc⟩
    · exact .inr ⟨h1, sqT_mono R1.bh hc⟩⟩
theorem xq_m (i : Nat) {x : Str} {ds : List PyData} {Φ : Bool → List PyData → GS → Prop} (hg : Γ[i]? = some (.lst ds)) (h : Φ true ds Γ) (hN : X.N[i]? = some x := by rfl)
    (hv : Vis X.env.scope x := by first | exact Or.inl rfl | exact Or.inr (Or.inl rfl) | exact Or.inr (Or.inr rfl)) (hd : (x == ("__debug__" : Str)) = false := by decide) (hcd : (x == ("__classdict__" : Str)) = false := by decide) : Xq X C (.Name x pos) Γ Φ :=
  ⟨fun B H σ R Q k => wpe_of (pe_var hN hv hd hcd) (by
    obtain ⟨r, vs, f0, f1, _, _, f4⟩ := R.lst hg
    exact ⟨_, f0, k r vs B H Γ true ds (Same.refl _) R f4 (.inl ⟨rfl, SqL.of f1⟩) h⟩)⟩
theorem sq_or {K : PySem.W.Frag} {H : Hp} {r : Addr} {vs : List V} {k : Bool} (h : (k = true ∧ SqL K H r vs) ∨ (k = false ∧ SqT K H r vs)) : SqL K H r vs ∨ SqT K H r vs := h.elim (fun z => .inl z.2) fun z => .inr z.2
theorem xe_len (hm : X.mg "len" = none) (h : Xq X C a Γ fun _ ds Γ1 => Φ (.int (ds.length : Nat)) Γ1) (hg : Gl X "len" := by rfl) (he : starEach [a] X.env = [(false, eval a X.env)] := by rfl) : Xe X C (.Call (.Name "len" p) [a] [] pos) Γ Φ :=
  ⟨fun B H σ R Q k => wpe_of (pe_callB call_len_seq hg hm PySem.boot_len (pa_cons pe_w pa_nil he) (by decide) (by decide) he (by rfl)) (h.run B H σ R _ fun r vs B1 H1 Γ1 kk ds s1 R1 hd hs q =>
    ⟨r, vs, rfl, sq_or hs, by rw [dpAll_len hd]; exact k _ B1 H1 Γ1 _ s1 R1 (.int _) q⟩)⟩
theorem xe_tupleOf (hm : X.mg "tuple" = none) (h : Xq X C a Γ fun k ds Γ1 => k = true ∧ Φ (.tuple ds) Γ1) (hg : Gl X "tuple" := by rfl) (he : starEach [a] X.env = [(false, eval a X.env)] := by rfl) : Xe X C (.Call (.Name "tuple" p) [a] [] pos) Γ Φ :=
  ⟨fun B H σ R Q k => wpe_of (pe_callTy call_tuple_of hg hm PyProof.Rows.boot_tuple (pa_cons pe_w pa_nil he) (by decide) (by decide) he (by rfl)) (h.run B H σ R _ fun r vs B1 H1 Γ1 kk ds s1 R1 hd hs ⟨e1, q⟩ => by
    refine ⟨r, vs, rfl, ?_⟩
    rcases hs with ⟨_, hs⟩ | ⟨e2, hs⟩
    · exact .inl ⟨hs, fun t ht => k _ (upd B1 t (.tup vs)) _ Γ1 _ (s1.trans (same_upd (R1.bnone ht))) (R1.new ht) (.tup (SqT.of upd_same) (dpAll_mono (same_upd (R1.bnone ht)) _ _ hd)) q⟩
    · rw [e1] at e2; cases e2)⟩
theorem xm_listOf {Ψ : List PyData → GS → Prop} (hm : X.mg "list" = none) (h : Xq X C a Γ fun _ ds Γ1 => Ψ ds Γ1) (hg : Gl X "list" := by rfl) (he : starEach [a] X.env = [(false, eval a X.env)] := by rfl) : Xm X C (.Call (.Name "list" p) [a] [] pos) Γ Ψ :=
  ⟨fun B H σ R Q k => wpe_of (pe_callTy call_list_of hg hm (by decide +kernel) (pa_cons pe_w pa_nil he) (by decide) (by decide) he (by rfl)) (h.run B H σ R _ fun r vs B1 H1 Γ1 kk ds s1 R1 hd hs q =>
    ⟨r, vs, rfl, sq_or hs, fun t ht => k t vs B1 H1 Γ1 ds s1 R1 ht hd q⟩)⟩
/-- the ints 0 .. n - 1 -/
def rgD (n : Nat) : List PyData := (List.range n).map fun (i : Nat) => PyData.int (i : Int)
theorem dpAll_rg {K : PySem.W.Frag} {B : Hp} (n : Int) : DpAll K B (rgV 0 n) (rgD n.toNat) := by
  have e1 : rgV 0 n = ((List.range n.toNat).map fun (i : Nat) => (i : Int)).map V.int := by
    unfold rgV
    rw [List.map_map, show n - 0 = n by omega]
    refine List.map_congr_left fun i _ => ?_
    show V.int (0 + (i : Int)) = V.int (i : Int)
    rw [Int.zero_add]
  have e2 : rgD n.toNat = ((List.range n.toNat).map fun (i : Nat) => (i : Int)).map PyData.int := by
    unfold rgD
    rw [List.map_map] <;> rfl
  rw [e1, e2]
  exact dpAll_ofInt _
/-- list(range(n)) -/
theorem xm_listRange {Ψ : List PyData → GS → Prop} {p3 pos3 : Pos} (hc : X.calm = true) (hm : X.mg "list" = none) (hmr : X.mg "range" = none) (h : Xe X C a Γ fun y Γ1 => ∃ n, y = .int n ∧ 0 ≤ n ∧ n ≤ 1000000 ∧ Ψ (rgD n.toNat) Γ1)
    (hg : Gl X "list" := by rfl) (hgr : Gl X "range" := by rfl) (na : starEach [a] X.env = (false, eval a X.env) :: starEach [] X.env := by rfl) (nb : starEach [.Call (.Name "range" p3) [a] [] pos3] X.env = (false, eval (.Call (.Name "range" p3) [a] [] pos3) X.env) :: starEach [] X.env := by rfl) :
    Xm X C (.Call (.Name "list" p) [.Call (.Name "range" p3) [a] [] pos3] [] pos) Γ Ψ :=
  ⟨fun B H σ R Q k => wpe_of (pe_listRg hc hg hm (prg_1 hgr hmr pe_w na) nb) (h.run B H σ R _ fun v B1 H1 Γ1 y s1 R1 hy ⟨n, ey, h0, h1, q⟩ => by
    subst ey
    cases dp_int hy
    exact ⟨n, rfl, RgOk.of_le (by omega) (by omega) (by omega) h0, fun t ht => k t _ B1 H1 Γ1 _ s1 R1 ht (dpAll_rg n) q⟩)⟩
/-- sum of ints -/
theorem xe_sum (hc : X.calm = true) (hm : X.mg "sum" = none) (h : Xq X C a Γ fun k ds Γ1 => ∃ ns : List Int, k = true ∧ ds = ns.map .int ∧ Φ (.int ns.sum) Γ1) (hg : Gl X "sum" := by rfl) (he : starEach [a] X.env = [(false, eval a X.env)] := by rfl) : Xe X C (.Call (.Name "sum" p) [a] [] pos) Γ Φ :=
  ⟨fun B H σ R Q k => wpe_of (pe_callB (cr_sum hc) hg hm (by decide +kernel) (pa_cons pe_w pa_nil he) (by decide) (by decide) he (by rfl)) (h.run B H σ R _ fun r vs B1 H1 Γ1 kk ds s1 R1 hd hs ⟨ns, e1, e2, q⟩ => by
    subst e2
    cases dpAll_int hd
    rcases hs with ⟨_, hs⟩ | ⟨e3, hs⟩
    · exact ⟨r, ns, rfl, hs, k _ B1 H1 Γ1 _ s1 R1 (.int _) q⟩
    · rw [e1] at e3; cases e3)⟩
theorem xe_maxL (hc : X.calm = true) (hm : X.mg "max" = none) (h : Xq X C a Γ fun k ds Γ1 => ∃ ns : List Int, k = true ∧ ds = ns.map .int ∧ 0 < ns.length ∧ ∀ m, m ∈ ns → (∀ y, y ∈ ns → y ≤ m) → Φ (.int m) Γ1) (hg : Gl X "max" := by rfl) (he : starEach [a] X.env = [(false, eval a X.env)] := by rfl) : Xe X C (.Call (.Name "max" p) [a] [] pos) Γ Φ :=
  ⟨fun B H σ R Q k => wpe_of (pe_callB (cr_max hc) hg hm (by decide +kernel) (pa_cons pe_w pa_nil he) (by decide) (by decide) he (by rfl)) (h.run B H σ R _ fun r vs B1 H1 Γ1 kk ds s1 R1 hd hs ⟨ns, e1, e2, hl, q⟩ => by
    subst e2
    cases dpAll_int hd
    rcases hs with ⟨_, hs⟩ | ⟨e3, hs⟩
    · exact ⟨r, ns, rfl, hs, hl, fun m h1 h2 => k _ B1 H1 Γ1 _ s1 R1 (.int _) (q m h1 h2)⟩
    · rw [e1] at e3; cases e3)⟩
theorem xe_minL (hc : X.calm = true) (hm : X.mg "min" = none) (h : Xq X C a Γ fun k ds Γ1 => ∃ ns : List Int, k = true ∧ ds = ns.map .int ∧ 0 < ns.length ∧ ∀ m, m ∈ ns → (∀ y, y ∈ ns → m ≤ y) → Φ (.int m) Γ1) (hg : Gl X "min" := by rfl) (he : starEach [a] X.env = [(false, eval a X.env)] := by rfl) : Xe X C (.Call (.Name "min" p) [a] [] pos) Γ Φ :=
  ⟨fun B H σ R Q k => wpe_of (pe_callB (cr_min hc) hg hm (by decide +kernel) (pa_cons pe_w pa_nil he) (by decide) (by decide) he (by rfl)) (h.run B H σ R _ fun r vs B1 H1 Γ1 kk ds s1 R1 hd hs ⟨ns, e1, e2, hl, q⟩ => by
    subst e2
    cases dpAll_int hd
    rcases hs with ⟨_, hs⟩ | ⟨e3, hs⟩
    · exact ⟨r, ns, rfl, hs, hl, fun m h1 h2 => k _ B1 H1 Γ1 _ s1 R1 (.int _) (q m h1 h2)⟩
    · rw [e1] at e3; cases e3)⟩
theorem xe_max2 (hc : X.calm = true) (hm : X.mg "max" = none) (h : Xa X C [a, b] Γ fun ds Γ1 => ∃ i j : Int, ds = [.int i, .int j] ∧ Φ (.int (max i j)) Γ1) (hg : Gl X "max" := by rfl) (he : starEach [a, b] X.env = (false, eval a X.env) :: starEach [b] X.env := by rfl) (hb : (backTo pos (starEach [b] X.env)).any (·.1) = false := by rfl) :
    Xe X C (.Call (.Name "max" p) [a, b] [] pos) Γ Φ :=
  ⟨fun B H σ R Q k => wpe_of (pe_callB (call_max2 hc) hg hm (by decide +kernel) pa_w (by decide) (by decide) he hb) (h.run B H σ R _ fun vs B1 H1 Γ1 ds s1 R1 hd ⟨i, j, e1, q⟩ => by
    subst e1
    cases dpAll_int (ns := [i, j]) hd
    refine ⟨i, j, rfl, k _ B1 H1 Γ1 _ s1 R1 (.int _) ?_⟩
    rw [show (if j > i then j else i) = max i j by omega]
    exact q)⟩
theorem xe_min2 (hc : X.calm = true) (hm : X.mg "min" = none) (h : Xa X C [a, b] Γ fun ds Γ1 => ∃ i j : Int, ds = [.int i, .int j] ∧ Φ (.int (min i j)) Γ1) (hg : Gl X "min" := by rfl) (he : starEach [a, b] X.env = (false, eval a X.env) :: starEach [b] X.env := by rfl) (hb : (backTo pos (starEach [b] X.env)).any (·.1) = false := by rfl) :
    Xe X C (.Call (.Name "min" p) [a, b] [] pos) Γ Φ :=
  ⟨fun B H σ R Q k => wpe_of (pe_callB (call_min2 hc) hg hm (by decide +kernel) pa_w (by decide) (by decide) he hb) (h.run B H σ R _ fun vs B1 H1 Γ1 ds s1 R1 hd ⟨i, j, e1, q⟩ => by
    subst e1
    cases dpAll_int (ns := [i, j]) hd
    refine ⟨i, j, rfl, k _ B1 H1 Γ1 _ s1 R1 (.int _) ?_⟩
    rw [show (if j < i then j else i) = min i j by omega]
    exact q)⟩
theorem xe_abs (hm : X.mg "abs" = none) (h : Xe X C a Γ fun y Γ1 => ∃ i : Int, y = .int i ∧ Φ (.int (i.natAbs : Int)) Γ1) (hg : Gl X "abs" := by rfl) (he : starEach [a] X.env = [(false, eval a X.env)] := by rfl) : Xe X C (.Call (.Name "abs" p) [a] [] pos) Γ Φ :=
  ⟨fun B H σ R Q k => wpe_of (pe_callB call_abs hg hm (by decide +kernel) (pa_cons pe_w pa_nil he) (by decide) (by decide) he (by rfl)) (h.run B H σ R _ fun v B1 H1 Γ1 y s1 R1 hy ⟨i, ey, q⟩ => by
    subst ey
    cases dp_int hy
    refine ⟨i, rfl, k _ B1 H1 Γ1 _ s1 R1 (.int _) ?_⟩
    rw [show (if i < 0 then -i else i) = (i.natAbs : Int) by omega]
    exact q)⟩
theorem xe_intOf (hm : X.mg "int" = none) (h : Xe X C a Γ fun y Γ1 => ∃ i : Int, y = .int i ∧ Φ (.int i) Γ1) (hg : Gl X "int" := by rfl) (he : starEach [a] X.env = [(false, eval a X.env)] := by rfl) : Xe X C (.Call (.Name "int" p) [a] [] pos) Γ Φ :=
  ⟨fun B H σ R Q k => wpe_of (pe_callTy call_int1 hg hm (by decide +kernel) (pa_cons pe_w pa_nil he) (by decide) (by decide) he (by rfl)) (h.run B H σ R _ fun v B1 H1 Γ1 y s1 R1 hy ⟨i, ey, q⟩ => by
    subst ey
    cases dp_int hy
    exact .inl ⟨i, rfl, k _ B1 H1 Γ1 _ s1 R1 (.int _) q⟩)⟩
theorem dp_reads {X : Cx} {pins : List (Addr × Obj)} {σ : L2.St} {H : Hp} {s : Shared} (I : Inv X pins σ H s) {ds : List PyData} {vs : List V} {us : List Value} (h : DpAll X.K H vs ds) (r : Vals vs us) : ∃ as, PySem.ReadsAll s.heap us ds as := Dp.readsAll I ds vs us h r
end
end Gh
namespace Gh
open PySem L2
section
open PySem.W PyProof.Rows PySem.SeqAt
variable {prog : Program} {w : World} {A : Around} {E : Value → Shared → Prop} {s : Shared}
/-- min of a list of alike data: which item -/
theorem minD_at {l : Addr} {vs : Array Value} {x : PyData} {xs : List PyData} {as : List Addr} {Q : Value → Shared → Prop} (hh : A.handled = none) (hl : s.heap.IsList l vs) (hr : ReadsAll s.heap vs.toList (x :: xs) as) (ha : AlikeAll (x :: xs)) (hu : A.units + 1 + PyData.depthAll (x :: xs) < cLine)
    (h : ∀ (i : Nat) v h' tk, vs[i]? = some v → (x :: xs)[i]? = some (minD x xs) → (∀ b o, s.heap.get? b = some o → h'.get? b = some o) → Q v { s with heap := h', toks := tk }) :
    wpAny (model prog w) A (call (.builtin "min") [.ref l]) Q E s := by
  have hn : vs.size = xs.length + 1 := readsAll_len hr
  refine call_min_walkH (iter_listW (A := A.in1) hh hl fun s₂ e W st hfp hw hk => ?_)
  refine ⟨_, _, _, _, _, _, _, s.heap, _, rfl, W, st, hfp, by omega, hw, hk, cmpIn_lt (A := A.in1) hr ha (by show A.units + 1 + _ < _; exact hu), fun v s' hP m => ?_⟩
  obtain ⟨h', tk, rfl, hk'⟩ := moved_old e rfl m
  have e1 : vs.size - 1 = xs.length := by omega
  obtain ⟨b1, e2⟩ := argBest_fold dataLt PyData.none x xs xs.length (Nat.le_refl _)
  rw [List.take_length] at e2
  rw [e1] at hP
  refine h _ v h' tk hP ?_ hk'
  have hlt : argBest (fun i j => dataLt ((x :: xs).getD i PyData.none) ((x :: xs).getD j PyData.none)) xs.length < (x :: xs).length := by rw [List.length_cons]; omega
  rw [List.getElem?_eq_getElem hlt]
  rw [List.getD_eq_getElem?_getD, List.getElem?_eq_getElem hlt] at e2
  exact congrArg some e2
end
section
variable {X : Cx} {C : GC} {Γ : GS} {a b c e : Expr} {es : List Expr} {pos p p2 : Pos} {Φ : PK}
/-- min of a list of data -/
def rMinD (K : PySem.W.Frag) : List V → Hp → VK → Prop := fun xs H Q => ∃ (a : Addr) (vs : List V) (d : PyData) (ds : List PyData), xs = [.ref a] ∧ SqL K H a vs ∧ DpAll K H vs (d :: ds) ∧ PySem.W.AlikeAll (d :: ds) ∧ PyData.depthAll (d :: ds) ≤ 30 ∧
  ∀ (i : Nat) (v : V), vs[i]? = some v → (d :: ds)[i]? = some (PySem.W.minD d ds) → Q v H
theorem cr_minD (hc : X.calm = true) (hu : X.A.units + 64 < cLine) : CallR X (.builtin "min") (rMinD X.K) := by
  intro pins s σ H xs us Q I r h
  obtain ⟨a, vs, d, ds, rfl, hs, hd, al, dp, q⟩ := h
  obtain ⟨u, rfl, ru⟩ := vals1 r
  obtain rfl : u = Value.ref a := ru
  obtain ⟨its, rv, pl, hz⟩ := I.list hs
  obtain ⟨as, hr⟩ := dp_reads I hd rv
  refine minD_at (I.ok.hd hc) pl.isList (as := as) (by simpa using hr) al (by omega) fun i v h' tk hi hx hk => ?_
  have hi' : its[i]? = some v := by simpa using hi
  have hlt : i < vs.length := by rw [rv.length]; exact (List.getElem?_eq_some_iff.mp hi').1
  obtain ⟨v', hv', rr⟩ := rv.get (List.getElem?_eq_getElem hlt)
  rw [hi'] at hv'; cases hv'
  exact ⟨_, H, I.kept hk, rr, q i _ (List.getElem?_eq_getElem hlt) hx⟩
theorem xe_minD (hc : X.calm = true) (hu : X.A.units + 64 < cLine) (hm : X.mg "min" = none) (h : Xq X C a Γ fun k ds Γ1 => ∃ d ds', k = true ∧ ds = d :: ds' ∧ PySem.W.AlikeAll ds ∧ PyData.depthAll ds ≤ 30 ∧ Φ (PySem.W.minD d ds') Γ1) (hg : Gl X "min" := by rfl) (he : starEach [a] X.env = [(false, eval a X.env)] := by rfl) : Xe X C (.Call (.Name "min" p) [a] [] pos) Γ Φ :=
  ⟨fun B H σ R Q k => wpe_of (pe_callB (cr_minD hc hu) hg hm (by decide +kernel) (pa_cons pe_w pa_nil he) (by decide) (by decide) he (by rfl)) (h.run B H σ R _ fun r vs B1 H1 Γ1 kk ds s1 R1 hd hs ⟨d, ds', e1, e2, al, dp, q⟩ => by
    subst e2
    rcases hs with ⟨_, hs⟩ | ⟨e3, hs⟩
    · refine ⟨r, vs, d, ds', rfl, hs, dpAll_mono R1.bh _ _ hd, al, dp, fun i v hi hx => ?_⟩
      obtain ⟨v', hv', dv⟩ := dpAll_get hd hx
      rw [hi] at hv'; cases hv'
      exact k _ B1 H1 Γ1 _ s1 R1 dv q
    · rw [e1] at e3; cases e3)⟩

/-! ### sorted of data -/
def rSortedD (K : PySem.W.Frag) : List V → Hp → VK → Prop := fun xs H Q => ∃ (a : Addr) (B : Hp) (vs : List V) (ds : List PyData), xs = [.ref a] ∧ Same B H ∧ SqL K H a vs ∧ DpAll K B vs ds ∧ PySem.W.AllAlike ds ∧ PySem.W.Sortable ds ∧ (∀ d ∈ ds, d.depth ≤ 30) ∧
  ∀ (ws : List V) (t : Addr), DpAll K B ws (ds.mergeSort (PySem.W.dataLe false id)) → H t = none → Q (.ref t) (upd H t (.lst ws))
theorem each_of_dp {K : PySem.W.Frag} {B : Hp} : ∀ {vs : List V} {us : List Value} {ds : List PyData}, DpAll K B vs ds → Vals vs us → PySem.W.EachIs (fun u d => ∃ v, RelV v u ∧ Dp K B v d) us ds
  | _, _, _, .nil, .nil => .nil
  | _, _, _, .cons h1 h2, .cons r1 r2 => .cons ⟨_, r1, h1⟩ (each_of_dp h2 r2)
theorem dp_of_each {K : PySem.W.Frag} {B : Hp} : ∀ {us : List Value} {ds : List PyData}, PySem.W.EachIs (fun u d => ∃ v, RelV v u ∧ Dp K B v d) us ds → ∃ vs, Vals vs us ∧ DpAll K B vs ds
  | _, _, .nil => ⟨[], .nil, .nil⟩
  | _, _, .cons ⟨v, r, h⟩ t => by
    obtain ⟨vs, h1, h2⟩ := dp_of_each t
    exact ⟨v :: vs, .cons r h1, .cons h h2⟩
theorem cr_sortedD (hu : X.A.units + 64 < cLine) : CallR X (.builtin "sorted") (rSortedD X.K) := by
  intro pins s σ H xs us Q I r h
  obtain ⟨a, B, vs, ds, rfl, bh, hs, hd, al, so, dp, q⟩ := h
  obtain ⟨u, rfl, ru⟩ := vals1 r
  obtain rfl : u = Value.ref a := ru
  obtain ⟨its, rv, pl, hz⟩ := I.list hs
  obtain ⟨as, hr⟩ := dp_reads I (dpAll_mono bh _ _ hd) rv
  have er := PySem.W.readsAll_each (h := s.heap) id (vs := its) (bs := ds) (as := as) (by simpa using hr)
  have hl : ds.length = its.length := by rw [← dpAll_len hd, rv.length]
  refine PySem.W.sorted_data (enc := id) (R := fun u d => ∃ v, RelV v u ∧ Dp X.K B v d) pl.isList (each_of_dp hd rv) er (by simpa using al) (by simpa using so) (by rw [hl, ← rv.length]; exact hz) (fun d m => by have := dp d m; show X.A.units + 2 + d.depth < _; omega) fun out ho eo => ?_
  obtain ⟨ws, w1, w2⟩ := dp_of_each eo
  obtain ⟨n, hn⟩ := PyProof.Rows.sortedAll_at s.heap its out.toArray
  have hp : H (s.heap.objs.size + 1) = none := I.hok.fresh (Nat.le_succ _)
  refine ⟨.ref _, upd H (s.heap.objs.size + 1) (.lst ws), I.laid (t' := s.toks) (fun b o e => PyProof.Rows.sortedAll_old e) (Nat.le_succ _) ⟨?_, out, n, w1, hn⟩, rfl, q ws _ w2 hp⟩
  rw [w1.length, ho, hl, ← rv.length]
  exact hz
theorem xm_sortedD {Ψ : List PyData → GS → Prop} (hu : X.A.units + 64 < cLine) (hm : X.mg "sorted" = none) (h : Xq X C a Γ fun k ds Γ1 => k = true ∧ PySem.W.AllAlike ds ∧ PySem.W.Sortable ds ∧ (∀ d ∈ ds, d.depth ≤ 30) ∧ Ψ (ds.mergeSort (PySem.W.dataLe false id)) Γ1) (hg : Gl X "sorted" := by rfl) (he : starEach [a] X.env = [(false, eval a X.env)] := by rfl) : Xm X C (.Call (.Name "sorted" p) [a] [] pos) Γ Ψ :=
  ⟨fun B H σ R Q k => wpe_of (pe_callB (cr_sortedD hu) hg hm (by decide +kernel) (pa_cons pe_w pa_nil he) (by decide) (by decide) he (by rfl)) (h.run B H σ R _ fun r vs B1 H1 Γ1 kk ds s1 R1 hd hs ⟨e1, al, so, dp, q⟩ => by
    rcases hs with ⟨_, hs⟩ | ⟨e3, hs⟩
    · exact ⟨r, B1, vs, ds, rfl, R1.bh, hs, hd, al, so, dp, fun ws t hw ht => k t ws B1 H1 Γ1 _ s1 R1 ht hw q⟩
    · rw [e1] at e3; cases e3)⟩

/-! ### in -/
theorem inV_ints (i : Int) (ns : List Int) : inV (.int i) (ns.map V.int) = decide (i ∈ ns) := by
  unfold inV
  rw [Bool.eq_iff_iff, List.any_eq_true, decide_eq_true_eq]
  constructor
  · rintro ⟨x, hx, he⟩
    obtain ⟨n, hn, rfl⟩ := List.mem_map.mp hx
    have : n = i := by simpa [eqV] using he
    subst this
    exact hn
  · intro h
    exact ⟨.int i, List.mem_map.mpr ⟨i, h, rfl⟩, by simp [eqV]⟩
theorem flat_ints (ns : List Int) : (ns.map V.int).all flatV = true := by
  rw [List.all_eq_true]
  intro x hx
  obtain ⟨n, _, rfl⟩ := List.mem_map.mp hx
  rfl
theorem inV_strs (i : Str) (ns : List Str) : inV (.str i) (ns.map V.str) = decide (i ∈ ns) := by
  unfold inV
  rw [Bool.eq_iff_iff, List.any_eq_true, decide_eq_true_eq]
  constructor
  · rintro ⟨x, hx, he⟩
    obtain ⟨n, hn, rfl⟩ := List.mem_map.mp hx
    have : n = i := by simpa [eqV] using he
    subst this
    exact hn
  · intro h
    exact ⟨.str i, List.mem_map.mpr ⟨i, h, rfl⟩, by simp [eqV]⟩
theorem flat_strs' (ns : List Str) : (ns.map V.str).all flatV = true := by
  rw [List.all_eq_true]
  intro x hx
  obtain ⟨n, _, rfl⟩ := List.mem_map.mp hx
  rfl
theorem dpAll_str {K : PySem.W.Frag} {B : Hp} : ∀ {vs : List V} {ns : List Str}, DpAll K B vs (ns.map PyData.str) → vs = ns.map V.str
  | _, [], h => by cases h; rfl
  | _, n :: ns, h => by
    cases h with
    | cons r t =>
      cases r
      rw [List.map_cons, dpAll_str t]
theorem xt_inI {Ψ : Bool → GS → Prop} (h : Xe X C a Γ fun x Γ1 => Xq X C b Γ1 fun k ds Γ2 => ∃ (i : Int) (ns : List Int), x = .int i ∧ ds = ns.map .int ∧ Ψ (decide (i ∈ ns)) Γ2) (hm : behindInMarks .In b = false := by rfl) : Xt X C (.Compare a [.In] [b] pos) Γ Ψ :=
  ⟨fun B H σ R Q k => wpt_of (pt_cmpR op_in_seq pe_w pe_w hm) (h.run B H σ R _ fun v B1 H1 Γ1 x s1 R1 dx hx => hx.run B1 H1 σ R1 _ fun r vs B2 H2 Γ2 kk ds s2 R2 hd hs ⟨i, ns, e1, e2, q⟩ => by
    subst e1 e2
    cases dp_int dx
    cases dpAll_int hd
    refine ⟨r, _, rfl, sq_or hs, rfl, flat_ints ns, _, rfl, ?_⟩
    rw [if_neg Bool.false_ne_true, inV_ints]
    exact k _ B2 H2 Γ2 (s1.trans s2) R2 q)⟩
theorem xt_notinI {Ψ : Bool → GS → Prop} (h : Xe X C a Γ fun x Γ1 => Xq X C b Γ1 fun k ds Γ2 => ∃ (i : Int) (ns : List Int), x = .int i ∧ ds = ns.map .int ∧ Ψ (!decide (i ∈ ns)) Γ2) (hm : behindInMarks .NotIn b = false := by rfl) : Xt X C (.Compare a [.NotIn] [b] pos) Γ Ψ :=
  ⟨fun B H σ R Q k => wpt_of (pt_cmpR op_notIn_seq pe_w pe_w hm) (h.run B H σ R _ fun v B1 H1 Γ1 x s1 R1 dx hx => hx.run B1 H1 σ R1 _ fun r vs B2 H2 Γ2 kk ds s2 R2 hd hs ⟨i, ns, e1, e2, q⟩ => by
    subst e1 e2
    cases dp_int dx
    cases dpAll_int hd
    refine ⟨r, _, rfl, sq_or hs, rfl, flat_ints ns, _, rfl, ?_⟩
    rw [if_pos rfl, inV_ints]
    exact k _ B2 H2 Γ2 (s1.trans s2) R2 q)⟩
theorem xt_inS {Ψ : Bool → GS → Prop} (h : Xe X C a Γ fun x Γ1 => Xq X C b Γ1 fun k ds Γ2 => ∃ (i : Str) (ns : List Str), x = .str i ∧ ds = ns.map .str ∧ Ψ (decide (i ∈ ns)) Γ2) (hm : behindInMarks .In b = false := by rfl) : Xt X C (.Compare a [.In] [b] pos) Γ Ψ :=
  ⟨fun B H σ R Q k => wpt_of (pt_cmpR op_in_seq pe_w pe_w hm) (h.run B H σ R _ fun v B1 H1 Γ1 x s1 R1 dx hx => hx.run B1 H1 σ R1 _ fun r vs B2 H2 Γ2 kk ds s2 R2 hd hs ⟨i, ns, e1, e2, q⟩ => by
    subst e1 e2
    cases dp_str dx
    cases dpAll_str hd
    refine ⟨r, _, rfl, sq_or hs, rfl, flat_strs' ns, _, rfl, ?_⟩
    rw [if_neg Bool.false_ne_true, inV_strs]
    exact k _ B2 H2 Γ2 (s1.trans s2) R2 q)⟩

/-! ### isinstance -/
def tyD : PyData → String
  | .none => "NoneType"
  | .bool _ => "bool"
  | .int _ => "int"
  | .str _ => "str"
  | .list _ => "list"
  | .tuple _ => "tuple"
  | .dict _ => "dict"
theorem dp_tyx {K : PySem.W.Frag} {B H : Hp} {v : V} {d : PyData} (h : Dp K B v d) (bh : Same B H) : TyX K H v (.type (tyD d)) := by
  cases h with
  | non => exact .base .non
  | bl b => exact .base (.bl b)
  | int i => exact .base (.int i)
  | str x => exact .base (.str x)
  | lst h1 _ =>
    rcases h1 with (h1 | ⟨o, h1⟩) | ⟨o, its, n, h1, h2, _⟩
    · exact .base (.lst (bh _ _ h1))
    · exact .base (.frz (bh _ _ h1))
    · exact .kList h1 h2
  | tup h1 _ =>
    rcases h1 with (h1 | ⟨o, h1⟩) | ⟨o, its, n, h1, h2, _⟩
    · exact .base (.tup (bh _ _ h1))
    · exact .fTuple (bh _ _ h1)
    · exact .kTuple h1 h2
theorem xe_isi {T : String} {x : Str} {r : Bool} (hm : X.mg "isinstance" = none) (hmT : X.mg x = none) (hT : bootBuiltins x = some (.type T)) (h : Xe X C a Γ fun d Γ1 => ∃ r, PySem.W.kitOne X.K (.type (tyD d)) (.type T) = some r ∧ Φ (.bool r) Γ1)
    (hg : Gl X "isinstance" := by rfl) (hgT : Gl X x := by rfl) (hn : x ≠ "__name__" := by decide) (hdb : (x == ("__debug__" : Str)) = false := by decide) (he : starEach [a, .Name x p2] X.env = (false, eval a X.env) :: starEach [.Name x p2] X.env := by rfl) (he2 : starEach [.Name x p2] X.env = [(false, eval (.Name x p2) X.env)] := by rfl)
    (hb : (backTo pos (starEach [.Name x p2] X.env)).any (·.1) = false := by rfl) : Xe X C (.Call (.Name "isinstance" p) [a, .Name x p2] [] pos) Γ Φ :=
  ⟨fun B H σ R Q k => wpe_of (pe_callB call_isi hg hm (by decide +kernel) (pa_cons pe_w (pa_cons (pe_bltn (v := .ty T) hgT hmT hT rfl hn hdb) pa_nil he2) he) (by decide) (by decide) he hb) (h.run B H σ R _ fun v B1 H1 Γ1 d s1 R1 hd ⟨r, hr, q⟩ =>
    ⟨v, .ty T, _, .type T, r, rfl, .ty T, dp_tyx hd R1.bh, hr, k _ B1 H1 Γ1 _ s1 R1 (.bl r) q⟩)⟩

/-! ### slices -/
theorem xo_none {Ψ : Option Int → GS → Prop} (h : Ψ none Γ) : Xo X C none Γ Ψ := ⟨fun B H σ R Q k => wpo_of po_none (k _ B H Γ (Same.refl _) R h)⟩
theorem xo_some {Ψ : Option Int → GS → Prop} (h : Xe X C e Γ fun y Γ1 => ∃ i, y = .int i ∧ Ψ (some i) Γ1) : Xo X C (some e) Γ Ψ :=
  ⟨fun B H σ R Q k => wpo_of (po_some pe_w) (h.run B H σ R _ fun v B1 H1 Γ1 y s1 R1 hy ⟨i, ey, q⟩ => by
    subst ey
    cases dp_int hy
    exact ⟨i, rfl, k _ B1 H1 Γ1 s1 R1 q⟩)⟩
def cutD (xs : List PyData) (lo hi : Option Int) : List PyData := (xs.drop (HT.sIx xs.length 0 lo)).take (HT.sIx xs.length xs.length hi - HT.sIx xs.length 0 lo)
theorem dpAll_cut {K : PySem.W.Frag} {B : Hp} {vs : List V} {ds : List PyData} (h : DpAll K B vs ds) (lo hi : Option Int) : DpAll K B (cutV vs lo hi) (cutD ds lo hi) := by
  unfold cutV cutD
  rw [dpAll_len h]
  exact dpAll_take _ (dpAll_drop _ h)
/-- t[lo:hi], a tuple -/
theorem xe_slT {lo hi : Option Expr} (h : Xe X C a Γ fun d Γ1 => Xo X C lo Γ1 fun l Γ2 => Xo X C hi Γ2 fun u Γ3 => ∃ ds, d = .tuple ds ∧ Φ (.tuple (cutD ds l u)) Γ3) : Xe X C (.Subscript a (.Slice lo hi none p2) pos) Γ Φ :=
  ⟨fun B H σ R Q k => wpe_of (pe_slice sl_tupA pe_w po_w po_w) (h.run B H σ R _ fun v B1 H1 Γ1 d s1 R1 hd h1 => h1.run B1 H1 σ R1 _ fun l B2 H2 Γ2 s2 R2 h2 => h2.run B2 H2 σ R2 _ fun u B3 H3 Γ3 s3 R3 ⟨ds, ed, q⟩ => by
    subst ed
    obtain ⟨r, vs, rfl, h5, h6⟩ := dp_tup (dp_mono (s2.trans s3) _ _ hd)
    refine ⟨r, vs, rfl, sqT_mono R3.bh h5, fun hw => ?_, fun hw t ht => ?_⟩
    · refine k _ B3 H3 Γ3 _ ((s1.trans s2).trans s3) R3 (.tup h5 h6) ?_
      have e : cutD ds l u = ds := by
        unfold cutD
        rw [dpAll_len h6] at hw
        rw [hw.1, hw.2]
        simp
      rw [← e]
      exact q
    · exact k _ (upd B3 t (.tup (cutV vs l u))) _ Γ3 _ (((s1.trans s2).trans s3).trans (same_upd (R3.bnone ht))) (R3.new ht) (.tup (SqT.of upd_same) (dpAll_mono (same_upd (R3.bnone ht)) _ _ (dpAll_cut h6 l u))) q)⟩
/-- xs[lo:hi], a list -/
theorem xm_slL {lo hi : Option Expr} {Ψ : List PyData → GS → Prop} (h : Xe X C a Γ fun d Γ1 => Xo X C lo Γ1 fun l Γ2 => Xo X C hi Γ2 fun u Γ3 => ∃ ds, d = .list ds ∧ Ψ (cutD ds l u) Γ3) : Xm X C (.Subscript a (.Slice lo hi none p2) pos) Γ Ψ :=
  ⟨fun B H σ R Q k => wpe_of (pe_slice sl_list pe_w po_w po_w) (h.run B H σ R _ fun v B1 H1 Γ1 d s1 R1 hd h1 => h1.run B1 H1 σ R1 _ fun l B2 H2 Γ2 s2 R2 h2 => h2.run B2 H2 σ R2 _ fun u B3 H3 Γ3 s3 R3 ⟨ds, ed, q⟩ => by
    subst ed
    obtain ⟨r, vs, rfl, h5, h6⟩ := dp_lst (dp_mono (s2.trans s3) _ _ hd)
    exact ⟨r, vs, rfl, sqL_mono R3.bh h5, fun t ht => k t _ B3 H3 Γ3 _ ((s1.trans s2).trans s3) R3 ht (dpAll_cut h6 l u) q⟩)⟩
/-- xs[::-1], a list -/
theorem xm_rev {k : Nat} {p1 p3 p4 : Pos} {Ψ : List PyData → GS → Prop} (h : Xe X C a Γ fun d Γ1 => ∃ ds, d = .list ds ∧ Ψ ds.reverse Γ1) : Xm X C (.Subscript a (.Slice none none (some (.UnaryOp .USub (.Constant (.int 1) k p1) p2)) p3) pos) Γ Ψ :=
  ⟨fun B H σ R Q k => wpe_of (pe_revL pe_w) (h.run B H σ R _ fun v B1 H1 Γ1 d s1 R1 hd ⟨ds, ed, q⟩ => by
    subst ed
    obtain ⟨r, vs, rfl, h5, h6⟩ := dp_lst hd
    exact ⟨r, vs, rfl, sqL_mono R1.bh h5, fun t ht => k t _ B1 H1 Γ1 _ s1 R1 ht (dpAll_rev h6) q⟩)⟩
end

/-! ### defs -/
/-- a def's promise: data in, data out -/
def spP (K : PySem.W.Frag) (g : List PyData → (PyData → Prop) → Prop) : Sp := fun vs H Q _ => ∃ (B : Hp) (ds : List PyData) (Φ : PyData → Prop), Same B H ∧ DpAll K B vs ds ∧ g ds Φ ∧
  ∀ (v : V) (B' H' : Hp) (d : PyData), Grow B H B' H' → Dp K B' v d → Φ d → Q v H'
/-- the first parameter a list that is changed -/
def spM (K : PySem.W.Frag) (g : List PyData → List PyData → (PyData → List PyData → Prop) → Prop) : Sp := fun vs H Q _ => ∃ (B : Hp) (p : Addr) (vs' ws : List V) (pl ds : List PyData) (Φ : PyData → List PyData → Prop), vs = .ref p :: vs' ∧ Same B H ∧
  H p = some (.lst ws) ∧ B p = none ∧ DpAll K B ws pl ∧ DpAll K B vs' ds ∧ g pl ds Φ ∧
  ∀ (v : V) (B' H' : Hp) (d : PyData) (ws' : List V) (pl' : List PyData), Same B B' → Same B' H' → (∀ b o, b ≠ p → H b = some o → H' b = some o) → (∀ b o, H b = some o → B b = none → B' b = none) → H' p = some (.lst ws') → DpAll K B' ws' pl' → Dp K B' v d → Φ d pl' → Q v H'
/-- a def of the module as one calls it -/
structure Cal (P : Program) (w : World) (K : PySem.W.Frag) (mg : Str → Option Value) (base : Heap) (k : Nat) (x : Str) (sp : Sp) : Prop where
  ex : ∃ (f : Addr) (fd : FuncData) (ps : List Str), FnOk P w K mg base CX0 k f fd ps sp ∧ mg x = some (.ref f) ∧ PySem.W.keepIn K (.ref f) = true ∧ Binds K fd ps []
theorem Cal.mono {P : Program} {w : World} {K : PySem.W.Frag} {mg : Str → Option Value} {base : Heap} {k j : Nat} {x : Str} {sp : Sp} (c : Cal P w K mg base k x sp) (h : k ≤ j) : Cal P w K mg base j x sp := by
  obtain ⟨f, fd, ps, h1, h2⟩ := c.ex
  exact ⟨f, fd, ps, h1.mono h, h2⟩
section
variable {X : Cx} {C : GC} {Γ : GS} {a b c e : Expr} {es : List Expr} {pos p p2 : Pos} {Φ : PK}
theorem xe_call {k : Nat} {x : Str} {g : List PyData → (PyData → Prop) → Prop} (c : Cal X.prog X.w X.K X.mg X.base k x (spP X.K g)) (hr : Room k X.A) (h : Xa X C (e :: es) Γ fun ds Γ1 => g ds fun d => Φ d Γ1)
    (hg : Gl X x := by rfl) (hdb : (x == ("__debug__" : Str)) = false := by decide) (he : starEach (e :: es) X.env = (false, eval e X.env) :: starEach es X.env := by rfl) (hpl : (backTo pos (starEach es X.env)).any (·.1) = false := by rfl) : Xe X C (.Call (.Name x p) (e :: es) [] pos) Γ Φ :=
  ⟨fun B H σ R Q k => by
    obtain ⟨f, fd, ps, F, hm, hk, hb⟩ := c.ex
    refine wpe_of (pe_call F hr hg hm hk hb .nil pass0 pa_w hdb he hpl) (h.run B H σ R _ fun vs B1 H1 Γ1 ds s1 R1 hd q => ?_)
    rw [List.append_nil]
    exact ⟨B1, ds, _, R1.bh, hd, q, fun v B' H' d gr hv q' => k v B' H' Γ1 d (s1.trans gr.b) (gr.rel R1) hv q'⟩⟩
/-- the first argument a name's own list, that the def changes -/
theorem xe_callM (i : Nat) {k : Nat} {x y : Str} {g : List PyData → List PyData → (PyData → List PyData → Prop) → Prop} (c : Cal X.prog X.w X.K X.mg X.base k x (spM X.K g)) (hr : Room k X.A)
    (h : Xa X C es Γ fun ds Γ1 => ∃ pl, Γ1[i]? = some (.lst pl) ∧ g pl ds fun d pl' => Φ d (Γ1.set i (.lst pl'))) (hi : ∃ pl : List PyData, Γ[i]? = some (.lst pl) := by exact ⟨_, rfl⟩)
    (hN : X.N[i]? = some y := by rfl) (hv : Vis X.env.scope y := by first | exact Or.inl rfl | exact Or.inr (Or.inl rfl) | exact Or.inr (Or.inr rfl)) (hd : (y == ("__debug__" : Str)) = false := by decide) (hcd : (y == ("__classdict__" : Str)) = false := by decide)
    (hg : Gl X x := by rfl) (hdb : (x == ("__debug__" : Str)) = false := by decide) (he : starEach (.Name y p2 :: es) X.env = (false, eval (.Name y p2) X.env) :: starEach es X.env := by rfl) (hpl : (backTo pos (starEach es X.env)).any (·.1) = false := by rfl) : Xe X C (.Call (.Name x p) (.Name y p2 :: es) [] pos) Γ Φ :=
  ⟨fun B H σ R Q k => by
    obtain ⟨f, fd, ps, F, hm, hk, hb⟩ := c.ex
    obtain ⟨pl0, hi⟩ := hi
    obtain ⟨r, vs0, e0, _⟩ := R.lst hi
    refine wpe_of (pe_call F hr hg hm hk hb .nil pass0 (pa_cons (pe_var hN hv hd hcd) pa_w he) hdb he hpl) ⟨_, e0, h.run B H σ R _ fun vs B1 H1 Γ1 ds s1 R1 hds ⟨pl, h1, q⟩ => ?_⟩
    obtain ⟨r', ws, f0, f1, f2, f3, f4⟩ := R1.lst h1
    rw [e0] at f0; cases f0
    rw [List.append_nil]
    refine ⟨B1, r, vs, ws, pl, ds, _, rfl, R1.bh, f1, f3, f4, hds, q, fun v B' H' d ws' pl' g1 g2 g3 g4 g5 g6 g7 q' => ?_⟩
    have hi1 : i < Γ1.length := (List.getElem?_eq_some_iff.mp h1).1
    refine k v B' H' (Γ1.set i (.lst pl')) d (s1.trans g1) ⟨fun b o z => g3 b o (fun e => by subst e; rw [f2] at z; cases z) (R1.fh _ _ z), R1.b0.trans g1, g2, fun b o z n => g4 b o (R1.fh _ _ z) (R1.fr b o z n), by rw [List.length_set]; exact R1.len, fun j gj ej => ?_, fun j l gj gl q ej el mj ml sj sl => ?_, fun q hq => ?_⟩ g7 q'
    · rcases get_set ej with ⟨rfl, rfl⟩ | ⟨hj, ej⟩
      · exact ⟨_, e0, r, ws', rfl, g5, f2, g4 _ _ f1 f3, g6⟩
      · obtain ⟨o, z1, z2⟩ := R1.at_ j gj ej
        refine ⟨o, z1, ?_⟩
        cases gj with
        | no => trivial
        | val d => obtain ⟨v, y1, y2⟩ := z2; exact ⟨v, y1, dp_mono g1 _ _ y2⟩
        | lck es => obtain ⟨t, ts, ob, y1, y2, y3⟩ := z2; exact ⟨t, ts, ob, y1, y2, kvRel_mono g1 y3⟩
        | lst es =>
          obtain ⟨t, ts, y1, y2, y3, y4, y5⟩ := z2
          exact ⟨t, ts, y1, g3 _ _ (fun z => by subst z; exact hj (R1.dis j i _ _ t ej h1 rfl rfl (by rw [z1, y1]) e0)) y2, y3, g4 _ _ y2 y4, dpAll_mono g1 _ _ y5⟩
        | dct es =>
          obtain ⟨t, ts, y1, y2, y3, y4, y5⟩ := z2
          exact ⟨t, ts, y1, g3 _ _ (fun z => by subst z; exact hj (R1.dis j i _ _ t ej h1 rfl rfl (by rw [z1, y1]) e0)) y2, y3, g4 _ _ y2 y4, kvRel_mono g1 y5⟩
    · by_cases hj : j = i
      · by_cases hl : l = i
        · rw [hj, hl]
        · rw [List.getElem?_set_ne (fun z => hl z.symm)] at el
          exact R1.dis j l _ gl q (by rw [hj]; exact h1) el rfl ml sj sl
      · rw [List.getElem?_set_ne (fun z => hj z.symm)] at ej
        by_cases hl : l = i
        · exact R1.dis j l gj _ q ej (by rw [hl]; exact h1) mj rfl sj sl
        · rw [List.getElem?_set_ne (fun z => hl z.symm)] at el
          exact R1.dis j l gj gl q ej el mj ml sj sl
    · obtain ⟨z1, g', z2, z3⟩ := R1.pin q hq
      refine ⟨z1, ?_⟩
      by_cases z : i = q.1
      · exact ⟨_, by rw [← z]; exact List.getElem?_set_self hi1, rfl⟩
      · exact ⟨g', by rw [List.getElem?_set_ne z]; exact z2, z3⟩⟩
end
end Gh
end

section
/-! Statements, loops, comprehensions, the bodies of defs. -/
namespace Gh
open PySem L2

section
variable {K : PySem.W.Frag} {C : GC} {B H : Hp} {σ : L2.St} {Γ : GS}
theorem Rel.putL (R : Rel K C B H σ Γ) {i : Nat} {p : Addr} {vs : List V} {ds ds' : List PyData} (e : Γ[i]? = some (.lst ds)) (hσ : σ[i]? = some (some (.ref p))) (f3 : C.F p = none) (f4 : B p = none) (hd : DpAll K B vs ds') :
    Rel K C B (upd H p (.lst vs)) σ (Γ.set i (.lst ds')) := R.put e rfl rfl hσ ⟨p, vs, rfl, upd_same, f3, f4, hd⟩
theorem Rel.putD (R : Rel K C B H σ Γ) {i : Nat} {p : Addr} {vs : List (Key × V)} {ds ds' : List (Key × PyData)} (e : Γ[i]? = some (.dct ds)) (hσ : σ[i]? = some (some (.ref p))) (f3 : C.F p = none) (f4 : B p = none) (hd : KvRel K B ds' vs) :
    Rel K C B (upd H p (.dK vs)) σ (Γ.set i (.dct ds')) := R.put e rfl rfl hσ ⟨p, vs, rfl, upd_same, f3, f4, hd⟩
/-- one more object that must stay -/
abbrev GC.plus (C : GC) (p : Addr) (o : HO) : GC := { C with F := upd C.F p o }
theorem Rel.plus (R : Rel K C B H σ Γ) {p : Addr} {o : HO} (hp : H p = none) : Rel K (C.plus p o) B (upd H p o) σ Γ where
  fh := same_upd3 R.fh
  b0 := R.b0
  bh := same_upd2 R.bh (R.bnone hp)
  fr := fun b u e n => by
    by_cases hb : b = p
    · rw [hb]; exact R.bnone hp
    · rw [show (C.plus p o).F b = C.F b from upd_ne hb] at e
      exact R.fr b u e n
  len := R.len
  at_ := fun i g e => by
    obtain ⟨o', h1, h2⟩ := R.at_ i g e
    refine ⟨o', h1, ?_⟩
    cases g with
    | no => trivial
    | val d => exact h2
    | lst ds =>
      obtain ⟨q, vs, e1, e2, e3, e4, e5⟩ := h2
      have hq : q ≠ p := ne_of_none e2 hp
      exact ⟨q, vs, e1, by rw [upd_ne hq]; exact e2, by rw [show (C.plus p o).F q = C.F q from upd_ne hq]; exact e3, e4, e5⟩
    | dct ds =>
      obtain ⟨q, vs, e1, e2, e3, e4, e5⟩ := h2
      have hq : q ≠ p := ne_of_none e2 hp
      exact ⟨q, vs, e1, by rw [upd_ne hq]; exact e2, by rw [show (C.plus p o).F q = C.F q from upd_ne hq]; exact e3, e4, e5⟩
    | lck ds =>
      obtain ⟨q, vs, ob, e1, e2, e3⟩ := h2
      have hq : q ≠ p := ne_of_none (R.fh _ _ e2) hp
      exact ⟨q, vs, ob, e1, by rw [show (C.plus p o).F q = C.F q from upd_ne hq]; exact e2, e3⟩
  dis := R.dis
  pin := R.pin
theorem Rel.unplus {p : Addr} {o : HO} (R : Rel K (C.plus p o) B H σ Γ) (hp : C.F p = none) (ho : ∀ ob u, o ≠ .frz ob u := by intro _ _ z; cases z) : Rel K C B H σ Γ where
  fh := fun b u e => R.fh b u (by rw [show (C.plus p o).F b = C.F b from upd_ne (ne_of_none e hp)]; exact e)
  b0 := R.b0
  bh := R.bh
  fr := fun b u e n => R.fr b u (by rw [show (C.plus p o).F b = C.F b from upd_ne (ne_of_none e hp)]; exact e) n
  len := R.len
  at_ := fun i g e => by
    obtain ⟨o', h1, h2⟩ := R.at_ i g e
    have un : ∀ q, (C.plus p o).F q = none → C.F q = none := fun q z => by
      by_cases hq : q = p
      · rw [hq]; exact hp
      · rw [show (C.plus p o).F q = C.F q from upd_ne hq] at z; exact z
    refine ⟨o', h1, ?_⟩
    cases g with
    | no => trivial
    | val d => exact h2
    | lst ds => obtain ⟨q, vs, e1, e2, e3, e4, e5⟩ := h2; exact ⟨q, vs, e1, e2, un q e3, e4, e5⟩
    | dct ds => obtain ⟨q, vs, e1, e2, e3, e4, e5⟩ := h2; exact ⟨q, vs, e1, e2, un q e3, e4, e5⟩
    | lck ds =>
      obtain ⟨q, vs, ob, e1, e2, e3⟩ := h2
      have hq : q ≠ p := fun z => by
        rw [z, show (C.plus p o).F p = some o from upd_same] at e2
        cases e2
        exact ho _ _ rfl
      exact ⟨q, vs, ob, e1, by rw [show (C.plus p o).F q = C.F q from upd_ne hq] at e2; exact e2, e3⟩
  dis := R.dis
  pin := R.pin
theorem Rel.keeps {p : Addr} {o : HO} (R : Rel K (C.plus p o) B H σ Γ) : H p = some o := R.fh p o upd_same
theorem Rel.kept {p : Addr} {o : HO} (R : Rel K (C.plus p o) B H σ Γ) (n : C.B0 p = none) : B p = none := R.fr p o upd_same n
end

section
variable {X : Cx} {C : GC} {Γ : GS} {a b c e : Expr} {es : List Expr} {pos p p2 : Pos} {Φ : PK} {N : GS → Prop} {R : PyData → GS → Prop} {st : Stmt} {rest : List Stmt}
/-! ### blocks -/
theorem xb_nil (h : N Γ) : Xb X C [] Γ N R := ⟨fun B H σ Rl D k1 k2 => wpb_of pss_nil (k1 B H σ Γ (Same.refl _) Rl h)⟩
theorem xb_cons (h : Xs X C st Γ (fun Γ1 => Xb X C rest Γ1 N R) R) : Xb X C (st :: rest) Γ N R :=
  ⟨fun B H σ Rl D k1 k2 => wpb_of (pss_cons ps_w pb_w) (h.run B H σ Rl { D with nx := wpb X rest D } (fun B1 H1 σ1 Γ1 s1 R1 hx => hx.run B1 H1 σ1 R1 D (fun B2 H2 σ2 Γ2 s2 R2 q => k1 B2 H2 σ2 Γ2 (s1.trans s2) R2 q) fun v B2 H2 σ2 Γ2 d s2 R2 hd q => k2 v B2 H2 σ2 Γ2 d (s1.trans s2) R2 hd q) k2)⟩
theorem xb_one (h : Xs X C st Γ N R) : Xb X C [st] Γ N R := ⟨fun B H σ Rl D k1 k2 => wpb_of (pss_one ps_w) (h.run B H σ Rl D k1 k2)⟩
/-- what holds between a statement and the rest, shown once -/
theorem xb_cut (M : GS → Prop) (h : Xs X C st Γ M R) (h2 : ∀ Γ1, M Γ1 → Xb X C rest Γ1 N R) : Xb X C (st :: rest) Γ N R := xb_cons (h.mono h2 fun _ _ q => q)
theorem xs_ret (h : Xe X C e Γ R) : Xs X C (.Return (some e) pos) Γ N R := ⟨fun B H σ Rl D k1 k2 => wps_of (ps_ret pe_w) (h.run B H σ Rl _ fun v B1 H1 Γ1 d s1 R1 hd q => k2 v B1 H1 σ Γ1 d s1 R1 hd q)⟩
theorem xs_if {t u : List Stmt} (h : Xt X C c Γ fun k Γ1 => (k = true → Xb X C t Γ1 N R) ∧ (k = false → Xb X C u Γ1 N R)) : Xs X C (.If c t u pos) Γ N R :=
  ⟨fun B H σ Rl D k1 k2 => wps_of (ps_if pt_w pb_w pb_w) (h.run B H σ Rl _ fun k B1 H1 Γ1 s1 R1 ⟨h1, h2⟩ => by
    cases k with
    | true => exact iteT ((h1 rfl).run B1 H1 σ R1 D (fun B2 H2 σ2 Γ2 s2 R2 q => k1 B2 H2 σ2 Γ2 (s1.trans s2) R2 q) fun v B2 H2 σ2 Γ2 d s2 R2 hd q => k2 v B2 H2 σ2 Γ2 d (s1.trans s2) R2 hd q)
    | false => exact iteF ((h2 rfl).run B1 H1 σ R1 D (fun B2 H2 σ2 Γ2 s2 R2 q => k1 B2 H2 σ2 Γ2 (s1.trans s2) R2 q) fun v B2 H2 σ2 Γ2 d s2 R2 hd q => k2 v B2 H2 σ2 Γ2 d (s1.trans s2) R2 hd q))⟩
/-- an expression whose value is dropped -/
theorem xs_expr (h : Xe X C e Γ fun _ Γ1 => N Γ1) (hs : swapsWith e none pos.line X.env = pure false := by rfl) : Xs X C (.Expr e pos) Γ N R :=
  ⟨fun B H σ Rl D k1 k2 => wps_of (ps_expr pe_w hs) (h.run B H σ Rl _ fun v B1 H1 Γ1 d s1 R1 hd q => k1 B1 H1 σ Γ1 s1 R1 q)⟩

/-! ### targets -/
theorem xg_name (i : Nat) {x : Str} {d : PyData} {Φ : GS → Prop} (hi : i < Γ.length) (hf : Free C Γ i) (h : Φ (Γ.set i (.val d))) (hN : X.N.Nodup) (hiN : X.N[i]? = some x := by rfl) (hx : Loc X.env.scope x := by first | exact Or.inl rfl | exact Or.inr rfl)
    (hff : X.fn x = true ∨ X.env.scope.names.lookup x = some .local := by first | exact .inl rfl | exact .inr rfl | assumption) : Xg X C (.Name x pos) [i] d Γ Φ :=
  ⟨fun B H σ v Rl hd Q k => wpg_of (pg_name hN hiN hx hff) (k _ _ (Rl.setVal hi hf hd) (fun j hj => List.getElem?_set_ne (fun z => hj (by simp [z]))) (by rw [List.length_set]) h)⟩
theorem xgs_nil {Φ : GS → Prop} (h : Φ Γ) : Xgs X C [] [] [] Γ Φ :=
  ⟨fun B H σ v Rl hd Q k => by
    cases hd
    exact wpgs_of pgs_nil ⟨rfl, k σ Γ Rl (fun _ _ => rfl) rfl h⟩⟩
theorem xgs_cons {t : Expr} {ts : List Expr} {d : PyData} {ds : List PyData} {vs ws : List Nat} {Φ : GS → Prop} (h : Xg X C t vs d Γ fun Γ1 => Xgs X C ts ws ds Γ1 Φ)
    (hs : (assignEach (t :: ts) X.env).map (·.2) = assign t X.env :: (assignEach ts X.env).map (·.2) := by rfl) : Xgs X C (t :: ts) (vs ++ ws) (d :: ds) Γ Φ :=
  ⟨fun B H σ v Rl hd Q k => by
    cases hd with
    | cons h1 h2 =>
      refine wpgs_of (pgs_cons pg_w pgs_w hs) ⟨_, _, rfl, h.run B H σ _ Rl h1 _ fun σ1 Γ1 R1 k1 l1 hx => hx.run B H σ1 _ R1 h2 Q fun σ2 Γ2 R2 k2 l2 q => k σ2 Γ2 R2 (fun i hi => ?_) (l2.trans l1) q⟩
      rw [List.mem_append, not_or] at hi
      rw [k2 i hi.2, k1 i hi.1]⟩
theorem xg_tup {es : List Expr} {k : Nat} {vs : List Nat} {d : PyData} {Φ : GS → Prop} (hc : X.calm = true) (h : ∃ ds, d = .tuple ds ∧ ds.length = es.length ∧ Xgs X C es vs ds Γ Φ) (hn : (assignEach es X.env).length = es.length := by rfl) (hst : (assignEach es X.env).findIdx? (·.1) = none := by rfl) : Xg X C (.Tuple es k pos) vs d Γ Φ :=
  ⟨fun B H σ v Rl hd Q k => by
    obtain ⟨ds, rfl, hl, h⟩ := h
    obtain ⟨r, ws, rfl, h1, h2⟩ := dp_tup hd
    exact wpg_of (pg_tup hc pgs_w hn hst) ⟨r, ws, rfl, sqT_mono Rl.bh h1, by rw [dpAll_len h2, hl], h.run B H σ ws Rl h2 Q k⟩⟩

/-! ### assignments -/
theorem xs_asg (i : Nat) {x : Str} {pos' : Pos} (h : Xe X C e Γ fun d Γ1 => i < Γ1.length ∧ Free C Γ1 i ∧ N (Γ1.set i (.val d))) (hN : X.N.Nodup) (hi : X.N[i]? = some x := by rfl) (hx : Loc X.env.scope x := by first | exact Or.inl rfl | exact Or.inr rfl)
    (hs : swapsWith e (some (.Name x pos')) pos.line X.env = pure false := by rfl) (hf : X.fn x = true ∨ X.env.scope.names.lookup x = some .local := by first | exact .inl rfl | exact .inr rfl | assumption) : Xs X C (.Assign [.Name x pos'] e pos) Γ N R :=
  ⟨fun B H σ Rl D k1 k2 => wps_of (ps_set hN hi hx pe_w hs hf) (h.run B H σ Rl _ fun v B1 H1 Γ1 d s1 R1 hd ⟨q1, q2, q3⟩ => k1 B1 H1 _ _ s1 (R1.setVal q1 q2 hd) q3)⟩
theorem slot_lst {K : PySem.W.Frag} {B H0 : Hp} {σ : L2.St} {p : Addr} {vs : List V} {ds : List PyData} (R1 : Rel K C B H0 σ Γ) (hp : H0 p = none) (hd : DpAll K B vs ds) : Slot K C.F B (upd H0 p (.lst vs)) (some (.ref p)) (.lst ds) := ⟨p, vs, rfl, upd_same, R1.fnone hp, R1.bnone hp, hd⟩
theorem slot_dct {K : PySem.W.Frag} {B H0 : Hp} {σ : L2.St} {p : Addr} {vs : List (Key × V)} {ds : List (Key × PyData)} (R1 : Rel K C B H0 σ Γ) (hp : H0 p = none) (hd : KvRel K B ds vs) : Slot K C.F B (upd H0 p (.dK vs)) (some (.ref p)) (.dct ds) := ⟨p, vs, rfl, upd_same, R1.fnone hp, R1.bnone hp, hd⟩
/-- name = a list just made: the name's own -/
theorem xs_asgM (i : Nat) {x : Str} {pos' : Pos} (h : Xm X C e Γ fun ds Γ1 => i < Γ1.length ∧ Free C Γ1 i ∧ N (Γ1.set i (.lst ds))) (hN : X.N.Nodup) (hi : X.N[i]? = some x := by rfl) (hx : Loc X.env.scope x := by first | exact Or.inl rfl | exact Or.inr rfl)
    (hs : swapsWith e (some (.Name x pos')) pos.line X.env = pure false := by rfl) (hf : X.fn x = true ∨ X.env.scope.names.lookup x = some .local := by first | exact .inl rfl | exact .inr rfl | assumption) : Xs X C (.Assign [.Name x pos'] e pos) Γ N R :=
  ⟨fun B H σ Rl D k1 k2 => wps_of (ps_set hN hi hx pe_w hs hf) (h.run B H σ Rl _ fun t vs B1 H1 Γ1 ds s1 R1 ht hd ⟨q1, q2, q3⟩ => k1 B1 _ _ _ s1 (R1.setNew q1 q2 ht (slot_lst R1 ht hd)) q3)⟩
theorem xs_asgD (i : Nat) {x : Str} {pos' : Pos} (h : Xd X C e Γ fun ds Γ1 => i < Γ1.length ∧ Free C Γ1 i ∧ N (Γ1.set i (.dct ds))) (hN : X.N.Nodup) (hi : X.N[i]? = some x := by rfl) (hx : Loc X.env.scope x := by first | exact Or.inl rfl | exact Or.inr rfl)
    (hs : swapsWith e (some (.Name x pos')) pos.line X.env = pure false := by rfl) (hf : X.fn x = true ∨ X.env.scope.names.lookup x = some .local := by first | exact .inl rfl | exact .inr rfl | assumption) : Xs X C (.Assign [.Name x pos'] e pos) Γ N R :=
  ⟨fun B H σ Rl D k1 k2 => wps_of (ps_set hN hi hx pe_w hs hf) (h.run B H σ Rl _ fun t vs B1 H1 Γ1 ds s1 R1 ht hd ⟨q1, q2, q3⟩ => k1 B1 _ _ _ s1 (R1.setNew q1 q2 ht (slot_dct R1 ht hd)) q3)⟩
/-- target = value -/
theorem xs_asgT {tg : Expr} (vs : List Nat) (h : Xe X C e Γ fun d Γ1 => Xg X C tg vs d Γ1 N) (hs : swapsWithSole [tg] e pos.line X.env = pure false := by rfl) (hw : swappedStores [tg] e X.env = pure none := by rfl)
    (h1 : (assignEach [tg] X.env).map (·.2) = [assign tg X.env] := by rfl) : Xs X C (.Assign [tg] e pos) Γ N R :=
  ⟨fun B H σ Rl D k1 k2 => wps_of (ps_asg pe_w pg_w hs hw h1) (h.run B H σ Rl _ fun v B1 H1 Γ1 d s1 R1 hd hx => hx.run B1 H1 σ v R1 hd _ fun σ2 Γ2 R2 _ _ q => k1 B1 H1 σ2 Γ2 s1 R2 q)⟩
/-- x, y = a, b -/
theorem xs_par (i j : Nat) {x y : Str} {px py pt : Pos} {kt k2 pt2} (hc : X.calm = true) (h : Xa X C [a, b] Γ fun ds Γ1 => ∃ d1 d2, ds = [d1, d2] ∧ i < Γ1.length ∧ j < Γ1.length ∧ Free C Γ1 i ∧ Free C (Γ1.set i (.val d1)) j ∧ N ((Γ1.set i (.val d1)).set j (.val d2))) (hN : X.N.Nodup) (hij : i ≠ j := by decide)
    (hi : X.N[i]? = some x := by rfl) (hj : X.N[j]? = some y := by rfl) (hx : X.env.scope.names.lookup x = some .local := by rfl) (hy : X.env.scope.names.lookup y = some .local := by rfl)
    (hw : swappedStores [.Tuple [.Name x px, .Name y py] kt pt] (.Tuple [a, b] k2 pt2) X.env = pure (some [x, y]) := by rfl)
    (hs : swapsWithSole [.Tuple [.Name x px, .Name y py] kt pt] (.Tuple [a, b] k2 pt2) pos.line X.env = pure false := by rfl) : Xs X C (.Assign [.Tuple [.Name x px, .Name y py] kt pt] (.Tuple [a, b] k2 pt2) pos) Γ N R :=
  ⟨fun B H σ Rl D k1 k3 => wps_of (ps_par hc hN hi hj hij hx hy pa_w hw hs) (h.run B H σ Rl _ fun vs B1 H1 Γ1 ds s1 R1 hd ⟨d1, d2, ed, q1, q2, q3, q4, q5⟩ => by
    subst ed
    cases hd with
    | cons h1 h2 =>
      cases h2 with
      | cons h2 h3 =>
        cases h3
        exact ⟨_, _, rfl, k1 B1 H1 _ _ s1 ((R1.setVal q1 q3 h1).setVal (by rw [List.length_set]; exact q2) q4 h2) q5⟩)⟩
/-- x, y = a, b: two lists just made -/
theorem xs_parM (i j : Nat) {x y : Str} {px py pt : Pos} {kt k2 pt2} (hc : X.calm = true) (h : Xm X C a Γ fun d1 Γ1 => ∀ C' : GC, C'.ps = C.ps → Xm X C' b Γ1 fun d2 Γ2 => j < Γ2.length ∧ i < Γ2.length ∧ Free C Γ2 i ∧ Free C (Γ2.set i (.lst d1)) j ∧ N ((Γ2.set i (.lst d1)).set j (.lst d2))) (hN : X.N.Nodup) (hij : i ≠ j := by decide)
    (hi : X.N[i]? = some x := by rfl) (hj : X.N[j]? = some y := by rfl) (hx : X.env.scope.names.lookup x = some .local := by rfl) (hy : X.env.scope.names.lookup y = some .local := by rfl)
    (hw : swappedStores [.Tuple [.Name x px, .Name y py] kt pt] (.Tuple [a, b] k2 pt2) X.env = pure (some [x, y]) := by rfl)
    (hs : swapsWithSole [.Tuple [.Name x px, .Name y py] kt pt] (.Tuple [a, b] k2 pt2) pos.line X.env = pure false := by rfl) (sa : starEach [a, b] X.env = (false, eval a X.env) :: starEach [b] X.env := by rfl) (sb : starEach [b] X.env = [(false, eval b X.env)] := by rfl) : Xs X C (.Assign [.Tuple [.Name x px, .Name y py] kt pt] (.Tuple [a, b] k2 pt2) pos) Γ N R :=
  ⟨fun B H σ Rl D k1 k3 => wps_of (ps_par hc hN hi hj hij hx hy (pa_cons pe_w (pa_cons pe_w pa_nil sb) sa) hw hs) (h.run B H σ Rl _ fun t vs B1 H1 Γ1 d1 s1 R1 ht hd hb => by
    have Fn := R1.fnone ht
    have Bn := R1.bnone ht
    have B0n : C.B0 t = none := R1.b0.free Bn
    refine (hb (C.plus t (.lst vs)) rfl).run B1 _ σ (R1.plus ht) _ fun t2 ws B2 H2 Γ2 d2 s2 R2 ht2 hd2 ⟨q1, q2, q3, q4, q5⟩ => ?_
    have e2 : H2 t = some (.lst vs) := R2.keeps
    have n2 : B2 t = none := R2.kept B0n
    have R3 : Rel X.K C B2 H2 σ Γ2 := R2.unplus Fn
    refine ⟨_, _, rfl, k1 B2 _ _ _ (s1.trans s2) ?_ q5⟩
    have htt : t ≠ t2 := ne_of_none e2 ht2
    have R4 : Rel X.K C B2 (upd H2 t2 (.lst ws)) (σ.set i (some (.ref t))) (Γ2.set i (.lst d1)) := by
      refine (R3.alloc (o := .lst ws) ht2).set q2 q3 ⟨t, vs, rfl, by rw [upd_ne htt]; exact e2, Fn, n2, dpAll_mono s2 _ _ hd⟩ fun _ l gl hl el ml z => ?_
      obtain ⟨o, z1, z2⟩ := R2.at_ l gl el
      obtain ⟨q, u, y1, y2, y3, y4⟩ := z2.mut ml
      rw [z1, y1] at z
      cases z
      rw [show (C.plus t (.lst vs)).F t = some (.lst vs) from upd_same] at y3
      cases y3
    refine R4.set (by rw [List.length_set]; exact q1) q4 ⟨t2, ws, rfl, upd_same, R3.fnone ht2, R3.bnone ht2, hd2⟩ fun _ l gl hl el ml z => ?_
    by_cases hli : i = l
    · subst hli
      rw [List.getElem?_set_self (by rw [← R3.len]; exact q2)] at z
      cases z
      exact htt rfl
    · rw [List.getElem?_set_ne hli] at z el
      obtain ⟨o, z1, z2⟩ := R3.at_ l gl el
      obtain ⟨q, u, y1, y2, y3, y4⟩ := z2.mut ml
      rw [z1, y1] at z
      cases z
      rw [ht2] at y2; cases y2)⟩

/-! ### a name's own list changes -/
theorem xs_append (i : Nat) {x : Str} {p3 : Pos} (h : Xe X C e Γ fun d Γ1 => ∃ ds, Γ1[i]? = some (.lst ds) ∧ ds.length ≤ 1000000 ∧ N (Γ1.set i (.lst (ds ++ [d])))) (hg : ∃ g : List PyData, Γ[i]? = some (.lst g) := by exact ⟨_, rfl⟩) (hN : X.N[i]? = some x := by rfl)
    (hv : Vis X.env.scope x := by first | exact Or.inl rfl | exact Or.inr (Or.inl rfl) | exact Or.inr (Or.inr rfl)) (hd : (x == ("__debug__" : Str)) = false := by decide) (hcd : (x == ("__classdict__" : Str)) = false := by decide)
    (hbase : attributeBase (.Name x p) "append" X.env (eval (.Name x p) X.env) = eval (.Name x p) X.env := by rfl)
    (hfew : ((backTo p3 (starEach [e] X.env)).all (fun x => !x.1) && (backToKw p3 (keywordEach [] X.env)).all (fun x => x.1.isSome)
      && decide (([e] : List Expr).length + ([] : List Keyword).length + (if ([] : List Keyword).isEmpty then 0 else 1) < 30)) = true := by rfl)
    (hline : (p2.endLine == p3.line) = true := by rfl) (hs : starEach [e] X.env = [(false, eval e X.env)] := by rfl) (hsw : swapsWith (.Call (.Attribute (.Name x p) "append" p2) [e] [] p3) none pos.line X.env = pure false := by rfl) :
    Xs X C (.Expr (.Call (.Attribute (.Name x p) "append" p2) [e] [] p3) pos) Γ N R :=
  ⟨fun B H σ Rl D k1 k2 => wps_of (ps_expr (pe_bm PySem.F.plainAttrs_list PySem.F.slot_list_append PySem.F.type_list_append mt_append (pe_var hN hv hd hcd) (pa_cons pe_w pa_nil hs) hbase hfew hline hs (by rfl)) hsw) (by
    obtain ⟨g, hg⟩ := hg
    obtain ⟨r, vs0, e0, f0, _⟩ := Rl.lst hg
    refine ⟨_, e0, .inl ⟨rfl, _, SqL.of f0⟩, h.run B H σ Rl _ fun v B1 H1 Γ1 d s1 R1 hd ⟨ds, h1, hl, q⟩ => ?_⟩
    obtain ⟨r2, vs, f1, f2, f3, f4, f5⟩ := R1.lst h1
    rw [e0] at f1; cases f1
    exact ⟨r, vs, v, rfl, rfl, f2, by rw [dpAll_len f5, PySem.sizeLine_eq]; omega, k1 B1 _ σ _ s1 (R1.putL h1 e0 f3 f4 (dpAll_app f5 (dpAll_one hd))) q⟩)⟩
/-- xs[i] = e -/
theorem xs_setIx (i : Nat) {x : Str} {ix : Expr} (h : Xe X C e Γ fun d Γ1 => Xe X C ix Γ1 fun y Γ2 => ∃ ds k j, Γ2[i]? = some (.lst ds) ∧ y = .int k ∧ ixN ds.length k = some j ∧ N (Γ2.set i (.lst (ds.set j d)))) (hg : ∃ g : List PyData, Γ[i]? = some (.lst g) := by exact ⟨_, rfl⟩) (hN : X.N[i]? = some x := by rfl)
    (hv : Vis X.env.scope x := by first | exact Or.inl rfl | exact Or.inr (Or.inl rfl) | exact Or.inr (Or.inr rfl)) (hd : (x == ("__debug__" : Str)) = false := by decide) (hcd : (x == ("__classdict__" : Str)) = false := by decide)
    (ha : ∀ v, assign (.Subscript (.Name x p) ix p2) X.env v = (do
      let ov ← holding [v] (eval (.Name x p) X.env)
      let iv ← holding [v, ov] (eval ix X.env)
      standAt p2
      holding [v, ov, iv] (setItem ov iv v)
      release [v, ov, iv] []) := by intro _; rfl) (hs : swapsWithSole [.Subscript (.Name x p) ix p2] e pos.line X.env = pure false := by rfl) (hw : swappedStores [.Subscript (.Name x p) ix p2] e X.env = pure none := by rfl)
    (h1 : (assignEach [.Subscript (.Name x p) ix p2] X.env).map (·.2) = [assign (.Subscript (.Name x p) ix p2) X.env] := by rfl) : Xs X C (.Assign [.Subscript (.Name x p) ix p2] e pos) Γ N R :=
  ⟨fun B H σ Rl D k1 k2 => wps_of (ps_asg pe_w (pg_sub (pe_var hN hv hd hcd) pe_w set_list ha) hs hw h1) (by
    obtain ⟨g, hg⟩ := hg
    obtain ⟨r, vs0, e0, f0, _⟩ := Rl.lst hg
    refine h.run B H σ Rl _ fun v B1 H1 Γ1 d s1 R1 hd hx => ⟨_, e0, hx.run B1 H1 σ R1 _ fun w B2 H2 Γ2 y s2 R2 hy ⟨ds, k, j, h1, ey, hj, q⟩ => ?_⟩
    subst ey
    cases dp_int hy
    obtain ⟨r2, vs, f1, f2, f3, f4, f5⟩ := R2.lst h1
    rw [e0] at f1; cases f1
    exact ⟨r, vs, k, j, rfl, rfl, f2, by rw [dpAll_len f5]; exact hj, k1 B2 _ σ _ (s1.trans s2) (R2.putL h1 e0 f3 f4 (dpAll_set j f5 (dp_mono s2 _ _ hd))) q⟩)⟩
/-- xs.pop(i) -/
theorem xe_popAt (i : Nat) {x : Str} {p3 : Pos} (h : Xe X C e Γ fun y Γ1 => ∃ ds k j d, Γ1[i]? = some (.lst ds) ∧ y = .int k ∧ -(2 ^ 63) ≤ k ∧ k < 2 ^ 63 ∧ seqIndex? k ds.length = some j ∧ ds[j]? = some d ∧ Φ d (Γ1.set i (.lst (ds.eraseIdx j)))) (hg : ∃ g : List PyData, Γ[i]? = some (.lst g) := by exact ⟨_, rfl⟩) (hN : X.N[i]? = some x := by rfl)
    (hv : Vis X.env.scope x := by first | exact Or.inl rfl | exact Or.inr (Or.inl rfl) | exact Or.inr (Or.inr rfl)) (hd : (x == ("__debug__" : Str)) = false := by decide) (hcd : (x == ("__classdict__" : Str)) = false := by decide)
    (hbase : attributeBase (.Name x p) "pop" X.env (eval (.Name x p) X.env) = eval (.Name x p) X.env := by rfl)
    (hfew : ((backTo p3 (starEach [e] X.env)).all (fun x => !x.1) && (backToKw p3 (keywordEach [] X.env)).all (fun x => x.1.isSome)
      && decide (([e] : List Expr).length + ([] : List Keyword).length + (if ([] : List Keyword).isEmpty then 0 else 1) < 30)) = true := by rfl)
    (hline : (p2.endLine == p3.line) = true := by rfl) (hs : starEach [e] X.env = [(false, eval e X.env)] := by rfl) :
    Xe X C (.Call (.Attribute (.Name x p) "pop" p2) [e] [] p3) Γ Φ :=
  ⟨fun B H σ Rl Q k2 => wpe_of (pe_bm PySem.F.plainAttrs_list PySem.F.slot_list_pop PySem.F.type_list_pop mt_popAt (pe_var hN hv hd hcd) (pa_cons pe_w pa_nil hs) hbase hfew hline hs (by rfl)) (by
    obtain ⟨g, hg⟩ := hg
    obtain ⟨r, vs0, e0, f0, _⟩ := Rl.lst hg
    refine ⟨_, e0, .inl ⟨rfl, _, SqL.of f0⟩, h.run B H σ Rl _ fun v B1 H1 Γ1 y s1 R1 hd ⟨ds, k, j, d, h1, ey, q1, q2, q3, q4, q⟩ => ?_⟩
    subst ey
    cases dp_int hd
    obtain ⟨r2, vs, f1, f2, f3, f4, f5⟩ := R1.lst h1
    rw [e0] at f1; cases f1
    obtain ⟨u, hu, du⟩ := dpAll_get f5 q4
    exact ⟨r, vs, k, j, u, rfl, rfl, f2, q1, q2, by rw [dpAll_len f5]; exact q3, hu, k2 u B1 _ _ d s1 (R1.putL h1 e0 f3 f4 (dpAll_erase j f5)) du q⟩)⟩
/-- xs.extend(a list just made) -/
theorem xs_extend (i : Nat) {x : Str} {p3 : Pos} (h : Xm X C e Γ fun es Γ1 => ∃ ds, Γ1[i]? = some (.lst ds) ∧ ds.length + es.length ≤ 1000000 ∧ N (Γ1.set i (.lst (ds ++ es)))) (hg : ∃ g : List PyData, Γ[i]? = some (.lst g) := by exact ⟨_, rfl⟩) (hN : X.N[i]? = some x := by rfl)
    (hv : Vis X.env.scope x := by first | exact Or.inl rfl | exact Or.inr (Or.inl rfl) | exact Or.inr (Or.inr rfl)) (hd : (x == ("__debug__" : Str)) = false := by decide) (hcd : (x == ("__classdict__" : Str)) = false := by decide)
    (hbase : attributeBase (.Name x p) "extend" X.env (eval (.Name x p) X.env) = eval (.Name x p) X.env := by rfl)
    (hfew : ((backTo p3 (starEach [e] X.env)).all (fun x => !x.1) && (backToKw p3 (keywordEach [] X.env)).all (fun x => x.1.isSome)
      && decide (([e] : List Expr).length + ([] : List Keyword).length + (if ([] : List Keyword).isEmpty then 0 else 1) < 30)) = true := by rfl)
    (hline : (p2.endLine == p3.line) = true := by rfl) (hs : starEach [e] X.env = [(false, eval e X.env)] := by rfl) (hsw : swapsWith (.Call (.Attribute (.Name x p) "extend" p2) [e] [] p3) none pos.line X.env = pure false := by rfl) :
    Xs X C (.Expr (.Call (.Attribute (.Name x p) "extend" p2) [e] [] p3) pos) Γ N R :=
  ⟨fun B H σ Rl D k1 k2 => wps_of (ps_expr (pe_bm PySem.F.plainAttrs_list PySem.F.slot_list_extend PySem.F.type_list_extend mt_extend (pe_var hN hv hd hcd) (pa_cons pe_w pa_nil hs) hbase hfew hline hs (by rfl)) hsw) (by
    obtain ⟨g, hg⟩ := hg
    obtain ⟨r, vs0, e0, f0, _⟩ := Rl.lst hg
    refine ⟨_, e0, .inl ⟨rfl, _, SqL.of f0⟩, h.run B H σ Rl _ fun t ws B1 H1 Γ1 es s1 R1 ht hd ⟨ds, h1, hl, q⟩ => ?_⟩
    obtain ⟨r2, vs, f1, f2, f3, f4, f5⟩ := R1.lst h1
    rw [e0] at f1; cases f1
    have R2 := R1.alloc (o := .lst ws) ht
    have hrt : r ≠ t := ne_of_none f2 ht
    exact ⟨r, t, vs, ws, rfl, rfl, by rw [upd_ne hrt]; exact f2, upd_same, by rw [dpAll_len f5, dpAll_len hd, PySem.sizeLine_eq]; omega, k1 B1 _ σ _ s1 (R2.putL h1 e0 f3 f4 (dpAll_app f5 hd)) q⟩)⟩
end
end Gh
end

section
/-! Loops, comprehensions, the bodies of defs. -/
namespace Gh
open PySem L2

def wpi (X : Cx) (tg iter : Expr) : TI := fun σ H R => ∀ (pins : List (Addr × Obj)) (s : Shared), Inv X pins σ H s →
  wpAny (model X.prog X.w) X.A (eval iter X.env) (fun v s1 => wpAny (model X.prog X.w) X.A (pyIter v) (PIE X pins σ tg R) X.xe s1) X.xe s
theorem pi_w {X : Cx} {tg iter : Expr} : PI X tg iter (wpi X tg iter) := ⟨fun pins s _ _ _ I h => h pins s I⟩
theorem wpi_of {X : Cx} {tg iter : Expr} {t : TI} (h : PI X tg iter t) {σ : L2.St} {H : Hp} {R : It → Hp → Prop} (q : t σ H R) : wpi X tg iter σ H R := fun pins s I => h.run pins s σ H R I q
/-- an iterator that yields n items, the i-th reading as item i, whatever else is made meanwhile -/
def ItOk (K : PySem.W.Frag) (F B1 : Hp) (J : It) (n : Nat) (item : Nat → PyData) : Prop :=
  ∀ (i : Nat) (B H : Hp), Same B1 B → Same B H → Same F H → (i < n → J.go i H) ∧ (n ≤ i → J.stop i H) ∧ ∀ x H', i < n → J.yld i H x H' → ∃ B', Grow B H B' H' ∧ Dp K B' x (item i)
structure Xi (X : Cx) (C : GC) (tg iter : Expr) (Γ : GS) (Φ : Nat → (Nat → PyData) → GS → Prop) : Prop where
  run : ∀ (B H : Hp) (σ : L2.St), Rel X.K C B H σ Γ → ∀ R : It → Hp → Prop, (∀ J n item B' H' Γ', Same B B' → Rel X.K C B' H' σ Γ' → ItOk X.K C.F B' J n item → Φ n item Γ' → R J H') → wpi X tg iter σ H R

section
variable {X : Cx} {C : GC} {Γ : GS} {a b c e tg iter : Expr} {es : List Expr} {pos p p2 : Pos} {Φ : PK} {N : GS → Prop} {R : PyData → GS → Prop}
/-! ### what is walked -/
/-- an expression's list or tuple -/
def iSq (K : PySem.W.Frag) (tl : TE) : TI := fun σ H R => tl σ H fun x H1 => ∃ a xs, x = .ref a ∧ ((SqL K H1 a xs ∧ R (Itl K a) H1) ∨ (SqT K H1 a xs ∧ R (Itt K a) H1))
theorem pi_sq {l : Expr} {tl : TE} (hl : PE X l tl) : PI X tg l (iSq X.K tl) := by
  refine ⟨fun pins s σ H R I h => ?_⟩
  refine thn (hl.run pins s σ H _ I h) fun v s1 ⟨x, H1, I1, r1, q1⟩ => ?_
  obtain ⟨a, xs, e, q⟩ := q1
  subst e
  cases r1
  rcases q with ⟨hq, q⟩ | ⟨hq, q⟩
  · obtain ⟨its, rv, p, hz⟩ := I1.list hq
    refine wpAny_pyIter_list p.isList ?_
    refine ⟨s1.heap.objs.size, [s1.heap.objs.size], _, _, H1, rfl, I1.kept (t' := s1.toks) fun b o e => Heap.get?_push_of_some _ e, turn_list a _, ⟨_, Heap.get?_push_size _ rfl, rfl, rfl⟩, fun b hb => ?_, q⟩
    have e : b = s1.heap.objs.size := by simpa using hb
    subst e
    exact I1.fpOk (Nat.le_refl _) (I1.hok.fresh (Nat.le_refl _))
  · obtain ⟨its, rv, p, hz⟩ := I1.tuple hq
    refine wpAny_pyIter_tuple (show s1.heap.IsTuple a its.toArray from p) ?_
    refine ⟨s1.heap.objs.size, [s1.heap.objs.size], _, _, H1, rfl, I1.kept (t' := s1.toks) fun b o e => Heap.get?_push_of_some _ e, turn_tuple a _, ⟨_, Heap.get?_push_size _ rfl, rfl, rfl⟩, fun b hb => ?_, q⟩
    have e : b = s1.heap.objs.size := by simpa using hb
    subst e
    exact I1.fpOk (Nat.le_refl _) (I1.hok.fresh (Nat.le_refl _))
theorem itl_ok {K : PySem.W.Frag} {F B1 : Hp} {a : Addr} {vs : List V} {ds : List PyData} (h : SqL K B1 a vs) (hd : DpAll K B1 vs ds) : ItOk K F B1 (Itl K a) ds.length (fun i => ds.getD i .none) := fun i B H s bh _ => by
  have hH := sqL_mono (s.trans bh) h
  have hl := dpAll_len hd
  refine ⟨fun hi => ?_, fun hi => ⟨vs, hH, by omega⟩, fun x H' hi hy => ?_⟩
  · exact ⟨vs, vs[i]'(by omega), hH, List.getElem?_eq_getElem (by omega)⟩
  · obtain ⟨rfl, hy⟩ := hy
    have e := hy vs hH
    obtain ⟨d, hd1, hd2⟩ := dpAll_get' hd e
    refine ⟨B, Grow.refl bh, ?_⟩
    show Dp K B x (ds.getD i .none)
    rw [List.getD_eq_getElem?_getD, hd1]
    exact dp_mono s _ _ hd2
theorem itt_ok {K : PySem.W.Frag} {F B1 : Hp} {a : Addr} {vs : List V} {ds : List PyData} (h : SqT K B1 a vs) (hd : DpAll K B1 vs ds) : ItOk K F B1 (Itt K a) ds.length (fun i => ds.getD i .none) := fun i B H s bh _ => by
  have hH := sqT_mono (s.trans bh) h
  have hl := dpAll_len hd
  refine ⟨fun hi => ?_, fun hi => ⟨vs, hH, by omega⟩, fun x H' hi hy => ?_⟩
  · exact ⟨vs, vs[i]'(by omega), hH, List.getElem?_eq_getElem (by omega)⟩
  · obtain ⟨rfl, hy⟩ := hy
    have e := hy vs hH
    obtain ⟨d, hd1, hd2⟩ := dpAll_get' hd e
    refine ⟨B, Grow.refl bh, ?_⟩
    show Dp K B x (ds.getD i .none)
    rw [List.getD_eq_getElem?_getD, hd1]
    exact dp_mono s _ _ hd2
theorem xi_seq {Ψ : Nat → (Nat → PyData) → GS → Prop} (h : Xe X C iter Γ fun d Γ1 => ∃ k ds, seqOf d = some (k, ds) ∧ Ψ ds.length (fun i => ds.getD i .none) Γ1) : Xi X C tg iter Γ Ψ :=
  ⟨fun B H σ Rl R k => wpi_of (pi_sq pe_w) (h.run B H σ Rl _ fun v B1 H1 Γ1 d s1 R1 hd ⟨kk, ds, hq, q⟩ => by
    obtain ⟨r, vs, rfl, hds, hc⟩ := dp_seq hd hq
    refine ⟨r, vs, rfl, ?_⟩
    rcases hc with ⟨_, hc⟩ | ⟨_, hc⟩
    · exact .inl ⟨sqL_mono R1.bh hc, k _ _ _ B1 H1 Γ1 s1 R1 (itl_ok hc hds) q⟩
    · exact .inr ⟨sqT_mono R1.bh hc, k _ _ _ B1 H1 Γ1 s1 R1 (itt_ok hc hds) q⟩)⟩
theorem itr_ok {K : PySem.W.Frag} {F B1 : Hp} {lo : Int} {n : Nat} : ItOk K F B1 (Itr lo n) n (fun i => .int (lo + (i : Nat))) := fun i B H s bh _ =>
  ⟨fun hi => hi, fun hi => hi, fun x H' hi hy => by
    obtain ⟨rfl, rfl⟩ := hy
    exact ⟨B, Grow.refl bh, .int _⟩⟩
theorem xi_range1 {Ψ : Nat → (Nat → PyData) → GS → Prop} (hm : X.mg "range" = none) (h : Xe X C a Γ fun y Γ1 => ∃ n : Int, y = .int n ∧ n ≤ 1000000 ∧ -1000000 ≤ n ∧ Ψ n.toNat (fun i => .int (i : Nat)) Γ1) (hg : Gl X "range" := by rfl) (hs : starEach [a] X.env = [(false, eval a X.env)] := by rfl) : Xi X C tg (.Call (.Name "range" p) [a] [] pos) Γ Ψ :=
  ⟨fun B H σ Rl R k => wpi_of (pi_range1 hg hm (pa_cons pe_w pa_nil hs) hs) (h.run B H σ Rl _ fun v B1 H1 Γ1 y s1 R1 hy ⟨n, ey, h1, h2, q⟩ => by
    subst ey
    cases dp_int hy
    refine ⟨n, rfl, by omega, by omega, k _ _ _ B1 H1 Γ1 s1 R1 (itr_ok (lo := 0)) ?_⟩
    have : (fun (i : Nat) => PyData.int ((0 : Int) + (i : Nat))) = fun (i : Nat) => PyData.int (i : Nat) := by funext i; rw [Int.zero_add]
    rw [this]
    exact q)⟩
theorem xi_range2 {Ψ : Nat → (Nat → PyData) → GS → Prop} (hm : X.mg "range" = none) (h : Xe X C a Γ fun x Γ1 => Xe X C b Γ1 fun y Γ2 => ∃ m n : Int, x = .int m ∧ y = .int n ∧ m ≤ 1000000 ∧ -1000000 ≤ m ∧ n ≤ 1000000 ∧ -1000000 ≤ n ∧ Ψ (n - m).toNat (fun i => .int (m + (i : Nat))) Γ2)
    (hg : Gl X "range" := by rfl) (hs : starEach [a, b] X.env = [(false, eval a X.env), (false, eval b X.env)] := by rfl) (hs2 : starEach [b] X.env = [(false, eval b X.env)] := by rfl) : Xi X C tg (.Call (.Name "range" p) [a, b] [] pos) Γ Ψ :=
  ⟨fun B H σ Rl R k => wpi_of (pi_range2 hg hm (pa_cons pe_w (pa_cons pe_w pa_nil hs2) (by rw [hs, hs2])) hs hs2) (h.run B H σ Rl _ fun v B1 H1 Γ1 x s1 R1 hx hb => hb.run B1 H1 σ R1 _ fun w B2 H2 Γ2 y s2 R2 hy ⟨m, n, ex, ey, h1, h2, h3, h4, q⟩ => by
    subst ex ey
    cases dp_int hx
    cases dp_int hy
    exact ⟨m, n, rfl, ⟨by omega, by omega, by omega, by omega⟩, k _ _ _ B2 H2 Γ2 (s1.trans s2) R2 itr_ok q⟩)⟩

/-! ### for -/
theorem xs_for (vs : List Nat) {body : List Stmt} (hp : PassesOwn (model X.prog X.w) X.A X.env X.xe) (hc : X.calm = true)
    (h : Xi X C tg iter Γ fun n item Γ1 => ∃ P : Nat → GS → Prop, P 0 Γ1 ∧ (∀ i Γ2, i < n → P i Γ2 → Xg X C tg vs (item i) Γ2 fun Γ3 => Xb X C body Γ3 (P (i + 1)) R) ∧ ∀ Γ2, P n Γ2 → N Γ2)
    (hs : ∀ x, foldedSetIterable iter X.env x = pure x := by intro _; rfl) : Xs X C (.For tg iter body [] pos) Γ N R :=
  ⟨fun B H σ Rl D k1 k2 => wps_of (ps_for hp hc pi_w pg_w pb_w hs) (h.run B H σ Rl _ fun J n item B1 H1 Γ1 s1 R1 ok ⟨P, h0, hstep, hend⟩ => by
    refine ⟨fun i m σ2 H2 => m = n - i ∧ i ≤ n ∧ ∃ B2 Γ2, Same B1 B2 ∧ Rel X.K C B2 H2 σ2 Γ2 ∧ P i Γ2, ⟨n, by omega, Nat.zero_le _, B1, Γ1, Same.refl _, R1, h0⟩, ?_⟩
    rintro i m σ2 H2 ⟨rfl, hi, B2, Γ2, s2, R2, hP⟩
    obtain ⟨o1, o2, o3⟩ := ok i B2 H2 s2 R2.bh R2.fh
    by_cases hlt : i < n
    · refine .inr ⟨o1 hlt, fun σ' H' => ∃ B' Γ', Same B2 B' ∧ Rel X.K C B' H' σ' Γ' ∧ P (i + 1) Γ', fun σ' H' ⟨B', Γ', s', R', p'⟩ => ⟨n - (i + 1), by omega, rfl, hlt, B', Γ', s2.trans s', R', p'⟩, fun x H3 hy => ?_⟩
      obtain ⟨B3, g3, hd⟩ := o3 x H3 hlt hy
      refine (hstep i Γ2 hlt hP).run B3 H3 σ2 x (g3.rel R2) hd _ fun σ4 Γ4 R4 _ _ hb => ?_
      exact hb.run B3 H3 σ4 R4 _ (fun B5 H5 σ5 Γ5 s5 R5 q => ⟨B5, Γ5, g3.b.trans s5, R5, q⟩) fun v B5 H5 σ5 Γ5 d s5 R5 hd q => k2 v B5 H5 σ5 Γ5 d (((s1.trans s2).trans g3.b).trans s5) R5 hd q
    · have e : i = n := by omega
      subst e
      exact .inl ⟨o2 (Nat.le_refl _), k1 B2 H2 σ2 Γ2 (s1.trans s2) R2 (hend Γ2 hP)⟩)⟩
/-! ### while -/
theorem xs_while {body : List Stmt} (hp : PassesOwn (model X.prog X.w) X.A X.env X.xe) (W : Nat → GS → Prop) (m0 : Nat) (h0 : W m0 Γ)
    (h : ∀ m Γ1, W m Γ1 → Xt X C c Γ1 fun k Γ2 => (k = true → Xb X C body Γ2 (fun Γ3 => ∃ m', m' < m ∧ W m' Γ3) R) ∧ (k = false → N Γ2)) : Xs X C (.While c body [] pos) Γ N R :=
  ⟨fun B H σ Rl D k1 k2 => wps_of (ps_while hp pt_w pb_w) (by
    refine ⟨fun m σ2 H2 => ∃ B2 Γ2, Same B B2 ∧ Rel X.K C B2 H2 σ2 Γ2 ∧ W m Γ2, ⟨m0, B, Γ, Same.refl _, Rl, h0⟩, ?_⟩
    rintro m σ2 H2 ⟨B2, Γ2, s2, R2, w2⟩
    refine (h m Γ2 w2).run B2 H2 σ2 R2 _ fun k B3 H3 Γ3 s3 R3 ⟨q1, q2⟩ => ?_
    cases k with
    | true =>
      refine iteT ⟨fun σ' H' => ∃ B' Γ', Same B B' ∧ Rel X.K C B' H' σ' Γ' ∧ ∃ m', m' < m ∧ W m' Γ', fun σ' H' ⟨B', Γ', s', R', m', hm, w'⟩ => ⟨m', hm, B', Γ', s', R', w'⟩, ?_⟩
      exact (q1 rfl).run B3 H3 σ2 R3 _ (fun B5 H5 σ5 Γ5 s5 R5 q => ⟨B5, Γ5, (s2.trans s3).trans s5, R5, q⟩) fun v B5 H5 σ5 Γ5 d s5 R5 hd q => k2 v B5 H5 σ5 Γ5 d ((s2.trans s3).trans s5) R5 hd q
    | false => exact iteF (k1 B3 H3 σ2 Γ3 (s2.trans s3) R3 (q2 rfl)))⟩

/-! ### list comprehensions -/
def wipeG (Γ : GS) : List Nat → GS
  | [] => Γ
  | v :: vs => (wipeG Γ vs).set v .no
/-- behind a turn: the comprehension's own slots as they were around it -/
def unw (Γ Γ' : GS) : List Nat → GS
  | [] => Γ'
  | v :: vs => (unw Γ Γ' vs).set v (Γ.getD v .no)
theorem wipeG_len (Γ : GS) : ∀ vs, (wipeG Γ vs).length = Γ.length
  | [] => rfl
  | v :: vs => by unfold wipeG; rw [List.length_set, wipeG_len Γ vs]
theorem unw_len (Γ Γ' : GS) : ∀ vs, (unw Γ Γ' vs).length = Γ'.length
  | [] => rfl
  | v :: vs => by unfold unw; rw [List.length_set, unw_len Γ Γ' vs]
theorem wipeG_in {Γ : GS} {i : Nat} : ∀ {vs : List Nat}, i ∈ vs → i < Γ.length → (wipeG Γ vs)[i]? = some .no
  | v :: vs, h, hl => by
    unfold wipeG
    by_cases e : v = i
    · subst e
      exact List.getElem?_set_self (by rw [wipeG_len]; exact hl)
    · rw [List.getElem?_set_ne e]
      exact wipeG_in ((List.mem_cons.mp h).resolve_left fun z => e z.symm) hl
theorem wipeG_out {Γ : GS} {i : Nat} : ∀ {vs : List Nat}, i ∉ vs → (wipeG Γ vs)[i]? = Γ[i]?
  | [], _ => rfl
  | v :: vs, h => by
    rw [List.mem_cons, not_or] at h
    unfold wipeG
    rw [List.getElem?_set_ne (fun z => h.1 z.symm), wipeG_out h.2]
theorem unw_in {Γ Γ' : GS} {i : Nat} : ∀ {vs : List Nat}, i ∈ vs → i < Γ'.length → (unw Γ Γ' vs)[i]? = some (Γ.getD i .no)
  | v :: vs, h, hl => by
    unfold unw
    by_cases e : v = i
    · subst e
      exact List.getElem?_set_self (by rw [unw_len]; exact hl)
    · rw [List.getElem?_set_ne e]
      exact unw_in ((List.mem_cons.mp h).resolve_left fun z => e z.symm) hl
theorem unw_out {Γ Γ' : GS} {i : Nat} : ∀ {vs : List Nat}, i ∉ vs → (unw Γ Γ' vs)[i]? = Γ'[i]?
  | [], _ => rfl
  | v :: vs, h => by
    rw [List.mem_cons, not_or] at h
    unfold unw
    rw [List.getElem?_set_ne (fun z => h.1 z.symm), unw_out h.2]
theorem wipe_in {σ : L2.St} {i : Nat} : ∀ {vs : List Nat}, i ∈ vs → i < σ.length → (wipe σ vs)[i]? = some none
  | v :: vs, h, hl => by
    unfold wipe
    by_cases e : v = i
    · subst e
      exact List.getElem?_set_self (by rw [wipe_length]; exact hl)
    · rw [List.getElem?_set_ne e]
      exact wipe_in ((List.mem_cons.mp h).resolve_left fun z => e z.symm) hl
theorem wipe_out' {σ : L2.St} {i : Nat} : ∀ {vs : List Nat}, i ∉ vs → (wipe σ vs)[i]? = σ[i]?
  | [], _ => rfl
  | v :: vs, h => by
    rw [List.mem_cons, not_or] at h
    unfold wipe
    rw [List.getElem?_set_ne (fun z => h.1 z.symm), wipe_out' h.2]
theorem wipe_eq {σ σ2 : L2.St} {vs : List Nat} (hl : σ2.length = σ.length) (h : ∀ i, i ∉ vs → σ2[i]? = σ[i]?) : wipe σ2 vs = wipe σ vs := by
  refine List.ext_getElem? fun i => ?_
  by_cases hi : i ∈ vs
  · by_cases hl2 : i < σ.length
    · rw [wipe_in hi hl2, wipe_in hi (by omega)]
    · rw [List.getElem?_eq_none (by rw [wipe_length]; omega), List.getElem?_eq_none (by rw [wipe_length]; omega)]
  · rw [wipe_out' hi, wipe_out' hi, h i hi]
/-- the own slots hold nothing of their own that may change -/
def NoMu (Γ : GS) (vs : List Nat) : Prop := ∀ i ∈ vs, ∀ g, Γ[i]? = some g → g.mu = false
section
variable {K : PySem.W.Frag} {B B' H H' : Hp} {σ σ2 : L2.St} {Γ2 Γ' : GS} {vs : List Nat}
theorem Rel.wiped (R : Rel K C B H σ Γ) (hn : ∀ q ∈ C.ps, q.1 ∉ vs) : Rel K C B H (wipe σ vs) (wipeG Γ vs) where
  fh := R.fh
  b0 := R.b0
  bh := R.bh
  fr := R.fr
  len := by rw [wipeG_len, wipe_length]; exact R.len
  at_ := fun i g e => by
    by_cases hi : i ∈ vs
    · have hl : i < Γ.length := by rw [← wipeG_len Γ vs]; exact (List.getElem?_eq_some_iff.mp e).1
      rw [wipeG_in hi hl] at e
      cases e
      exact ⟨none, wipe_in hi (by rw [← R.len]; exact hl), trivial⟩
    · rw [wipeG_out hi] at e
      obtain ⟨o, h1, h2⟩ := R.at_ i g e
      exact ⟨o, by rw [wipe_out' hi]; exact h1, h2⟩
  dis := fun i j gi gj p ei ej mi mj si sj => by
    by_cases hi : i ∈ vs
    · have hl : i < Γ.length := by rw [← wipeG_len Γ vs]; exact (List.getElem?_eq_some_iff.mp ei).1
      rw [wipeG_in hi hl] at ei
      cases ei; cases mi
    · by_cases hj : j ∈ vs
      · have hl : j < Γ.length := by rw [← wipeG_len Γ vs]; exact (List.getElem?_eq_some_iff.mp ej).1
        rw [wipeG_in hj hl] at ej
        cases ej; cases mj
      · rw [wipeG_out hi] at ei
        rw [wipeG_out hj] at ej
        rw [wipe_out' hi] at si
        rw [wipe_out' hj] at sj
        exact R.dis i j gi gj p ei ej mi mj si sj
  pin := fun q hq => by
    obtain ⟨h1, g, h2, h3⟩ := R.pin q hq
    exact ⟨by rw [wipe_out' (hn q hq)]; exact h1, g, by rw [wipeG_out (hn q hq)]; exact h2, h3⟩
theorem Rel.unwiped (R : Rel K C B H σ Γ) (R' : Rel K C B' H' σ2 Γ') (hs : Same B B') (ho : ∀ i, i ∉ vs → σ2[i]? = σ[i]?) (hl : σ2.length = σ.length) (hm : NoMu Γ vs) (hn : ∀ q ∈ C.ps, q.1 ∉ vs) : Rel K C B' H' σ (unw Γ Γ' vs) where
  fh := R'.fh
  b0 := R'.b0
  bh := R'.bh
  fr := R'.fr
  len := by rw [unw_len, R'.len, hl]
  at_ := fun i g e => by
    have hlt : i < Γ'.length := by rw [← unw_len Γ Γ' vs]; exact (List.getElem?_eq_some_iff.mp e).1
    by_cases hi : i ∈ vs
    · rw [unw_in hi hlt] at e
      have hl2 : i < Γ.length := by rw [R.len, ← hl, ← R'.len]; exact hlt
      have eg : Γ[i]? = some g := by
        rw [List.getD_eq_getElem?_getD, List.getElem?_eq_getElem hl2] at e
        rw [List.getElem?_eq_getElem hl2]
        exact e
      obtain ⟨o, h1, h2⟩ := R.at_ i g eg
      refine ⟨o, h1, ?_⟩
      have hmu := hm i hi g eg
      cases g with
      | no => trivial
      | val d => obtain ⟨v, y1, y2⟩ := h2; exact ⟨v, y1, dp_mono hs _ _ y2⟩
      | lck d => obtain ⟨t, ts, ob, y1, y2, y3⟩ := h2; exact ⟨t, ts, ob, y1, y2, kvRel_mono hs y3⟩
      | lst ds => cases hmu
      | dct ds => cases hmu
    · rw [unw_out hi] at e
      obtain ⟨o, h1, h2⟩ := R'.at_ i g e
      exact ⟨o, by rw [← ho i hi]; exact h1, h2⟩
  dis := fun i j gi gj p ei ej mi mj si sj => by
    have out : ∀ {i : Nat} {g : GE}, (unw Γ Γ' vs)[i]? = some g → g.mu = true → i ∉ vs ∧ Γ'[i]? = some g := fun {i g} e m => by
      have hlt : i < Γ'.length := by rw [← unw_len Γ Γ' vs]; exact (List.getElem?_eq_some_iff.mp e).1
      by_cases hi : i ∈ vs
      · rw [unw_in hi hlt] at e
        have hl2 : i < Γ.length := by rw [R.len, ← hl, ← R'.len]; exact hlt
        have eg : Γ[i]? = some g := by
          rw [List.getD_eq_getElem?_getD, List.getElem?_eq_getElem hl2] at e
          rw [List.getElem?_eq_getElem hl2]
          exact e
        rw [hm i hi g eg] at m; cases m
      · rw [unw_out hi] at e
        exact ⟨hi, e⟩
    obtain ⟨i1, i2⟩ := out ei mi
    obtain ⟨j1, j2⟩ := out ej mj
    exact R'.dis i j gi gj p i2 j2 mi mj (by rw [ho i i1]; exact si) (by rw [ho j j1]; exact sj)
  pin := fun q hq => by
    obtain ⟨h1, _⟩ := R.pin q hq
    obtain ⟨_, g, h2, h3⟩ := R'.pin q hq
    exact ⟨h1, g, by rw [unw_out (hn q hq)]; exact h2, h3⟩
end
theorem Rel.plusAt {K : PySem.W.Frag} {B H : Hp} {σ : L2.St} (R : Rel K C B H σ Γ) {p : Addr} {o : HO} (hp : H p = some o) (hf : C.F p = none) (hb : B p = none) (hm : ∀ (i : Nat) (g : GE), Γ[i]? = some g → g.mu = true → σ[i]? ≠ some (some (.ref p))) : Rel K (C.plus p o) B H σ Γ where
  fh := fun b u e => by
    by_cases hbp : b = p
    · subst hbp
      rw [show (C.plus b o).F b = some o from upd_same] at e
      cases e
      exact hp
    · rw [show (C.plus p o).F b = C.F b from upd_ne hbp] at e
      exact R.fh b u e
  b0 := R.b0
  bh := R.bh
  fr := fun b u e n => by
    by_cases hbp : b = p
    · rw [hbp]; exact hb
    · rw [show (C.plus p o).F b = C.F b from upd_ne hbp] at e
      exact R.fr b u e n
  len := R.len
  at_ := fun i g e => by
    obtain ⟨o', h1, h2⟩ := R.at_ i g e
    refine ⟨o', h1, ?_⟩
    cases g with
    | no => trivial
    | val d => exact h2
    | lst ds =>
      obtain ⟨q, vs, e1, e2, e3, e4, e5⟩ := h2
      have hq : q ≠ p := fun z => hm i _ e rfl (by rw [h1, e1, z])
      exact ⟨q, vs, e1, e2, by rw [show (C.plus p o).F q = C.F q from upd_ne hq]; exact e3, e4, e5⟩
    | dct ds =>
      obtain ⟨q, vs, e1, e2, e3, e4, e5⟩ := h2
      have hq : q ≠ p := fun z => hm i _ e rfl (by rw [h1, e1, z])
      exact ⟨q, vs, e1, e2, by rw [show (C.plus p o).F q = C.F q from upd_ne hq]; exact e3, e4, e5⟩
    | lck ds =>
      obtain ⟨q, vs, ob, e1, e2, e3⟩ := h2
      have hq : q ≠ p := ne_of_none e2 hf
      exact ⟨q, vs, ob, e1, by rw [show (C.plus p o).F q = C.F q from upd_ne hq]; exact e2, e3⟩
  dis := R.dis
  pin := R.pin
abbrev blkX (X : Cx) (s : Shared) (H : Hp) (scope : Scope) (Ca : Addr) (cl : List (Str × Addr)) (fp : List Addr) : Cx := X.blk s H scope (compEnvC scope cl Ca X.env) fp
theorem xts_nil {Ψ : Bool → GS → Prop} (h : Ψ true Γ) : Xts X C [] Γ Ψ := ⟨fun B H σ Rl Q k => wpts_of pts_nil (k _ B H Γ (Same.refl _) Rl h)⟩
theorem xts_one {Ψ : Bool → GS → Prop} (h : Xt X C c Γ Ψ) : Xts X C [c] Γ Ψ := ⟨fun B H σ Rl Q k => wpts_of (pts_one pt_w) (h.run B H σ Rl Q k)⟩
/-- what a turn of a comprehension is to show: target, tests, element, each in a block's context -/
def LcTurn (X : Cx) (C : GC) (tg elt : Expr) (ifs : List Expr) (scope : Scope) (own : List Nat) (d : PyData) (Γ2 : GS) (no : GS → Prop) (yes : PyData → GS → Prop) : Prop :=
  NoMu Γ2 own ∧ ∀ s H Ca cl fp C', C'.ps = C.ps → Xg (blkX X s H scope Ca cl fp) C' tg own d (wipeG Γ2 own) fun Γ3 => ∀ s H Ca cl fp, Xts (blkX X s H scope Ca cl fp) C' ifs Γ3 fun k Γ4 =>
    (k = false → no (unw Γ2 Γ4 own)) ∧ (k = true → ∀ s H Ca cl fp, Xe (blkX X s H scope Ca cl fp) C' elt Γ4 fun y Γ5 => yes y (unw Γ2 Γ5 own))
/-- what is asked of a comprehension -/
def LcAsk (X : Cx) (C : GC) (tg iter elt : Expr) (ifs : List Expr) (scope : Scope) (own : List Nat) (Γ : GS) (Ψ : List PyData → GS → Prop) : Prop :=
  Xi X C tg iter Γ fun n item Γ1 => ∃ P : Nat → List PyData → GS → Prop, P 0 [] Γ1 ∧ (∀ i acc Γ2, i < n → P i acc Γ2 → LcTurn X C tg elt ifs scope own (item i) Γ2 (P (i + 1) acc) fun y Γ5 => acc.length ≤ 1000000 ∧ P (i + 1) (acc ++ [y]) Γ5) ∧ ∀ acc Γ2, P n acc Γ2 → Ψ acc Γ2
/-- the reading of a comprehension's loop -/
theorem lc_read0 {elt : Expr} {ifs : List Expr} {scope : Scope} (own : List Nat) (hn : ∀ q ∈ C.ps, q.1 ∉ own) {Ψ : List PyData → GS → Prop} {Q : VK} {B H : Hp} {σ : L2.St} (Rl : Rel X.K C B H σ Γ)
    {Pn : Nat → (Nat → PyData) → GS → Prop} (hi : ∀ R : It → Hp → Prop, (∀ J n item B' H' Γ', Same B B' → Rel X.K C B' H' σ Γ' → ItOk X.K C.F B' J n item → Pn n item Γ' → R J H') → wpi X tg iter σ H R)
    (hP : ∀ n item Γ1, Pn n item Γ1 → ∃ P : Nat → List PyData → GS → Prop, P 0 [] Γ1 ∧ (∀ i acc Γ2, i < n → P i acc Γ2 → LcTurn X C tg elt ifs scope own (item i) Γ2 (P (i + 1) acc) fun y Γ5 => acc.length ≤ 1000000 ∧ P (i + 1) (acc ++ [y]) Γ5) ∧ ∀ acc Γ2, P n acc Γ2 → Ψ acc Γ2)
    (k : ∀ t vs B' H0 Γ' ds, Same B B' → Rel X.K C B' H0 σ Γ' → C.F t = none → B' t = none → H0 t = some (.lst vs) → (∀ (i : Nat) (g : GE), Γ'[i]? = some g → g.mu = true → σ[i]? ≠ some (some (.ref t))) → DpAll X.K B' vs ds → Ψ ds Γ' → Q (.ref t) H0) :
    tLc (wpi X tg iter) (fun v σ' H' Q' => ∀ s H Ca cl fp, wpg (blkX X s H scope Ca cl fp) tg v σ' H' Q') (fun σ' H' Q' => ∀ s H Ca cl fp, wpts (blkX X s H scope Ca cl fp) ifs σ' H' Q') (fun σ' H' Q' => ∀ s H Ca cl fp, wpe (blkX X s H scope Ca cl fp) elt σ' H' Q') own σ H Q := by
  refine hi _ fun J n item B1 H1 Γ1 s1 R1 ok hx => fun Da hD => ?_
  obtain ⟨P, h0, hstep, hend⟩ := hP n item Γ1 hx
  have Fn := R1.fnone hD
  have Bn := R1.bnone hD
  have B0n : C.B0 Da = none := R1.b0.free Bn
  -- the new list is an object that must stay but for our own appends: kept by the frame plus it
  refine ⟨fun i m H2 => m = n - i ∧ i ≤ n ∧ ∃ B2 Γ2 vs acc, Same B1 B2 ∧ H2 Da = some (.lst vs) ∧ Rel X.K (C.plus Da (.lst vs)) B2 H2 σ Γ2 ∧ DpAll X.K B2 vs acc ∧ P i acc Γ2,
    ⟨n, by omega, Nat.zero_le _, B1, Γ1, [], [], Same.refl _, upd_same, R1.plus hD, .nil, h0⟩, ?_⟩
  rintro i m H2 ⟨rfl, hile, B2, Γ2, vs, acc, s2, hDa, R2, hacc, hP⟩
  have B2n : B2 Da = none := R2.kept B0n
  obtain ⟨o1, o2, o3⟩ := ok i B2 H2 s2 R2.bh (R2.unplus Fn).fh
  by_cases hlt : i < n
  · refine .inr ⟨o1 hlt, fun H' => ∃ B' Γ' vs' acc', Same B2 B' ∧ H' Da = some (.lst vs') ∧ Rel X.K (C.plus Da (.lst vs')) B' H' σ Γ' ∧ DpAll X.K B' vs' acc' ∧ P (i + 1) acc' Γ', fun H' ⟨B', Γ', vs', acc', s', e', R', d', p'⟩ => ⟨n - (i + 1), by omega, rfl, hlt, B', Γ', vs', acc', s2.trans s', e', R', d', p'⟩, fun x H3 hy => ?_⟩
    obtain ⟨B3, g3, hd⟩ := o3 x H3 hlt hy
    have R3 : Rel X.K (C.plus Da (.lst vs)) B3 H3 σ Γ2 := g3.rel R2
    obtain ⟨hmu, hturn⟩ := hstep i acc Γ2 hlt hP
    have R3w := R3.wiped (vs := own) hn
    intro ss HH Ca cl fp
    refine (hturn ss HH Ca cl fp (C.plus Da (.lst vs)) rfl).run B3 H3 (wipe σ own) x R3w hd _ fun σ4 Γ4 R4 k4 l4 ht => ?_
    have ho : ∀ j, j ∉ own → σ4[j]? = σ[j]? := fun j hj => by rw [k4 j hj, wipe_out' hj]
    have hl : σ4.length = σ.length := by rw [l4, wipe_length]
    refine ⟨(wipe_eq hl ho), fun s' H' Ca' cl' fp' => ?_⟩
    refine (ht s' H' Ca' cl' fp').run B3 H3 σ4 R4 _ fun kk B5 H5 Γ5 s5 R5 ⟨hno, hyes⟩ => ?_
    cases kk with
    | false => exact iteF ⟨B5, _, vs, acc, g3.b.trans s5, R5.keeps, R3.unwiped R5 s5 ho hl hmu hn, dpAll_mono (g3.b.trans s5) _ _ hacc, hno rfl⟩
    | true =>
      refine iteT fun s'' H'' Ca'' cl'' fp'' => ?_
      refine (hyes rfl s'' H'' Ca'' cl'' fp'').run B5 H5 σ4 R5 _ fun v B6 H6 Γ6 d s6 R6 hv ⟨hz, hP'⟩ => ?_
      have R7 := R3.unwiped R6 (s5.trans s6) ho hl hmu hn
      have R8 : Rel X.K C B6 H6 σ _ := R7.unplus Fn
      have B6n : B6 Da = none := R7.kept B0n
      have hm7 : ∀ (j : Nat) (g : GE), (unw Γ2 Γ6 own)[j]? = some g → g.mu = true → σ[j]? ≠ some (some (.ref Da)) := fun j g ej mj z => by
        obtain ⟨o, z1, z2⟩ := R7.at_ j g ej
        obtain ⟨q, u, y1, y2, y3, y4⟩ := z2.mut mj
        rw [z1, y1] at z
        cases z
        rw [show (C.plus Da (.lst vs)).F Da = some (.lst vs) from upd_same] at y3
        cases y3
      refine ⟨vs, R6.keeps, by rw [dpAll_len hacc, PySem.sizeLine_eq]; omega, B6, _, vs ++ [v], acc ++ [d], (g3.b.trans s5).trans s6, upd_same, ?_, dpAll_app (dpAll_mono ((g3.b.trans s5).trans s6) _ _ hacc) (dpAll_one hv), hP'⟩
      have R9 : Rel X.K C B6 (upd H6 Da (.lst (vs ++ [v]))) σ (unw Γ2 Γ6 own) := R8.other Fn B6n hm7
      exact R9.plusAt upd_same Fn B6n hm7
  · have e : i = n := by omega
    subst e
    have R5 : Rel X.K C B2 H2 σ Γ2 := R2.unplus Fn
    refine .inl ⟨o2 (Nat.le_refl _), k Da vs B2 H2 Γ2 acc (s1.trans s2) R5 Fn B2n hDa (fun j g ej mj z => ?_) hacc (hend acc Γ2 hP)⟩
    obtain ⟨o, z1, z2⟩ := R2.at_ j g ej
    obtain ⟨q, u, y1, y2, y3, y4⟩ := z2.mut mj
    rw [z1, y1] at z
    cases z
    rw [show (C.plus Da (.lst vs)).F Da = some (.lst vs) from upd_same] at y3
    cases y3
/-- the reading of a comprehension's loop -/
theorem lc_read {elt : Expr} {ifs : List Expr} {scope : Scope} (own : List Nat) (hn : ∀ q ∈ C.ps, q.1 ∉ own) {Ψ : List PyData → GS → Prop} {Q : VK} {B H : Hp} {σ : L2.St} (Rl : Rel X.K C B H σ Γ)
    (h : LcAsk X C tg iter elt ifs scope own Γ Ψ)
    (k : ∀ t vs B' H0 Γ' ds, Same B B' → Rel X.K C B' H0 σ Γ' → C.F t = none → B' t = none → H0 t = some (.lst vs) → (∀ (i : Nat) (g : GE), Γ'[i]? = some g → g.mu = true → σ[i]? ≠ some (some (.ref t))) → DpAll X.K B' vs ds → Ψ ds Γ' → Q (.ref t) H0) :
    tLc (wpi X tg iter) (fun v σ' H' Q' => ∀ s H Ca cl fp, wpg (blkX X s H scope Ca cl fp) tg v σ' H' Q') (fun σ' H' Q' => ∀ s H Ca cl fp, wpts (blkX X s H scope Ca cl fp) ifs σ' H' Q') (fun σ' H' Q' => ∀ s H Ca cl fp, wpe (blkX X s H scope Ca cl fp) elt σ' H' Q') own σ H Q :=
  lc_read0 own hn Rl (h.run B H σ Rl) (fun _ _ _ hx => hx) k
end
end Gh
end

section
/-! Comprehensions as values, dicts, the bodies of defs. -/
namespace Gh
open PySem L2

section
variable {K : PySem.W.Frag} {C : GC} {B H : Hp} {σ : L2.St} {Γ : GS}
/-- an untracked object taken away -/
def delH (H : Hp) (p : Addr) : Hp := fun b => if b = p then none else H b
theorem delH_same {H : Hp} {p : Addr} : delH H p p = none := if_pos rfl
theorem delH_ne {H : Hp} {p b : Addr} (h : b ≠ p) : delH H p b = H b := if_neg h
theorem delH_upd {H : Hp} {p : Addr} {o : HO} (h : H p = some o) : upd (delH H p) p o = H := by
  funext b
  by_cases e : b = p
  · subst e; rw [upd_same, h]
  · rw [upd_ne e, delH_ne e]
theorem same_del {A H : Hp} {p : Addr} (s : Same A H) (h : A p = none) : Same A (delH H p) := fun b o e => by
  rw [delH_ne (ne_of_none e h)]; exact s _ _ e
theorem Rel.del (R : Rel K C B H σ Γ) {p : Addr} (hf : C.F p = none) (hb : B p = none) (hm : ∀ (i : Nat) (g : GE), Γ[i]? = some g → g.mu = true → σ[i]? ≠ some (some (.ref p))) : Rel K C B (delH H p) σ Γ where
  fh := same_del R.fh hf
  b0 := R.b0
  bh := same_del R.bh hb
  fr := R.fr
  len := R.len
  at_ := fun i g e => by
    obtain ⟨o', h1, h2⟩ := R.at_ i g e
    refine ⟨o', h1, ?_⟩
    cases g with
    | no => trivial
    | val d => exact h2
    | lck d => exact h2
    | lst ds =>
      obtain ⟨q, vs, e1, e2, e3, e4, e5⟩ := h2
      have hq : q ≠ p := fun z => hm i _ e rfl (by rw [h1, e1, z])
      exact ⟨q, vs, e1, by rw [delH_ne hq]; exact e2, e3, e4, e5⟩
    | dct ds =>
      obtain ⟨q, vs, e1, e2, e3, e4, e5⟩ := h2
      have hq : q ≠ p := fun z => hm i _ e rfl (by rw [h1, e1, z])
      exact ⟨q, vs, e1, by rw [delH_ne hq]; exact e2, e3, e4, e5⟩
  dis := R.dis
  pin := R.pin
end

section
variable {X : Cx} {C : GC} {Γ : GS} {a b c e tg iter elt : Expr} {es ifs : List Expr} {pos p p2 spos : Pos} {Φ : PK} {N : GS → Prop} {R : PyData → GS → Prop} {scope : Scope}
/-! ### [elt for tg in iter if ..] -/
theorem xm_lc {Ψ : List PyData → GS → Prop} (own : List (Str × Nat)) (hc : X.calm = true) (hN : X.N.Nodup) (ok : BlkOk X.N X.env.scope scope own) (hn : ∀ q ∈ C.ps, q.1 ∉ own.map (·.2)) (h : LcAsk X C tg iter elt ifs scope (own.map (·.2)) Γ Ψ)
    (hs : ∀ x, foldedSetIterable iter X.env x = pure x := by intro _; rfl) : Xm X C (.ListComp elt [⟨tg, iter, ifs, 0⟩] scope pos) Γ Ψ :=
  ⟨fun B H σ Rl Q k => wpe_of (pe_lc (own := own) hc hN pi_w ok (fun s H Ca cl fp => ⟨fun pins s2 σ2 H2 v u Q2 I r h2 => h2 s H Ca cl fp pins s2 u I r⟩) (fun s H Ca cl fp => ⟨fun pins s2 σ2 H2 Q2 I h2 => h2 s H Ca cl fp pins s2 I⟩) (fun s H Ca cl fp => ⟨fun pins s2 σ2 H2 Q2 I h2 => h2 s H Ca cl fp pins s2 I⟩) hs)
    (lc_read (own.map fun (x : Str × Nat) => x.2) hn Rl h fun t vs B' H0 Γ' ds s1 R1 f1 f2 f3 f4 hd q => by
      have := k t vs B' (delH H0 t) Γ' ds s1 (R1.del f1 f2 f4) delH_same hd q
      rw [delH_upd f3] at this
      exact this)⟩
/-- name = [..]: the name's own list -/
theorem xs_asgLcM (i : Nat) (own : List (Str × Nat)) {y : Str} {py : Pos} (hc : X.calm = true) (hN : X.N.Nodup) (ok : BlkOk X.N X.env.scope scope own) (hn : ∀ q ∈ C.ps, q.1 ∉ own.map (·.2)) (h : LcAsk X C tg iter elt ifs scope (own.map (·.2)) Γ fun ds Γ1 => i < Γ1.length ∧ Free C Γ1 i ∧ N (Γ1.set i (.lst ds)))
    (hsw : swapsWith (.ListComp elt [⟨tg, iter, ifs, 0⟩] scope pos) (some (.Name y py)) spos.line X.env = pure true) (hy : X.N[i]? = some y := by rfl) (hyl : X.env.scope.names.lookup y = some .local := by rfl)
    (hs : ∀ x, foldedSetIterable iter X.env x = pure x := by intro _; rfl) : Xs X C (.Assign [.Name y py] (.ListComp elt [⟨tg, iter, ifs, 0⟩] scope pos) spos) Γ N R :=
  ⟨fun B H σ Rl D k1 k2 => wps_of (ps_setLc (own := own) hc hN hy hyl hsw pi_w ok (fun s H Ca cl fp => ⟨fun pins s2 σ2 H2 v u Q2 I r h2 => h2 s H Ca cl fp pins s2 u I r⟩) (fun s H Ca cl fp => ⟨fun pins s2 σ2 H2 Q2 I h2 => h2 s H Ca cl fp pins s2 I⟩) (fun s H Ca cl fp => ⟨fun pins s2 σ2 H2 Q2 I h2 => h2 s H Ca cl fp pins s2 I⟩) hs)
    (lc_read (own.map fun (x : Str × Nat) => x.2) hn Rl h fun t vs B' H0 Γ' ds s1 R1 f1 f2 f3 f4 hd ⟨q1, q2, q3⟩ => by
      refine k1 B' _ _ _ s1 ?_ q3
      exact R1.set q1 q2 ⟨t, vs, rfl, f3, f1, f2, hd⟩ fun _ j gj _ ej mj z => f4 j gj ej mj z)⟩
/-- name = [..]: data -/
theorem xs_asgLc (i : Nat) (own : List (Str × Nat)) {y : Str} {py : Pos} (hc : X.calm = true) (hN : X.N.Nodup) (ok : BlkOk X.N X.env.scope scope own) (hn : ∀ q ∈ C.ps, q.1 ∉ own.map (·.2)) (h : LcAsk X C tg iter elt ifs scope (own.map (·.2)) Γ fun ds Γ1 => i < Γ1.length ∧ Free C Γ1 i ∧ N (Γ1.set i (.val (.list ds))))
    (hsw : swapsWith (.ListComp elt [⟨tg, iter, ifs, 0⟩] scope pos) (some (.Name y py)) spos.line X.env = pure true) (hy : X.N[i]? = some y := by rfl) (hyl : X.env.scope.names.lookup y = some .local := by rfl)
    (hs : ∀ x, foldedSetIterable iter X.env x = pure x := by intro _; rfl) : Xs X C (.Assign [.Name y py] (.ListComp elt [⟨tg, iter, ifs, 0⟩] scope pos) spos) Γ N R :=
  ⟨fun B H σ Rl D k1 k2 => wps_of (ps_setLc (own := own) hc hN hy hyl hsw pi_w ok (fun s H Ca cl fp => ⟨fun pins s2 σ2 H2 v u Q2 I r h2 => h2 s H Ca cl fp pins s2 u I r⟩) (fun s H Ca cl fp => ⟨fun pins s2 σ2 H2 Q2 I h2 => h2 s H Ca cl fp pins s2 I⟩) (fun s H Ca cl fp => ⟨fun pins s2 σ2 H2 Q2 I h2 => h2 s H Ca cl fp pins s2 I⟩) hs)
    (lc_read (own.map fun (x : Str × Nat) => x.2) hn Rl h fun t vs B' H0 Γ' ds s1 R1 f1 f2 f3 f4 hd ⟨q1, q2, q3⟩ => by
      have R2 := (R1.del f1 f2 f4).new (o := .lst vs) delH_same
      rw [delH_upd f3] at R2
      exact k1 (upd B' t (.lst vs)) _ _ _ (s1.trans (same_upd f2)) (R2.setVal q1 q2 (.lst (SqL.of upd_same) (dpAll_mono (same_upd f2) _ _ hd))) q3)⟩
theorem Xg.mono {vs : List Nat} {d : PyData} {Φ Ψ : GS → Prop} (h : Xg X C tg vs d Γ Φ) (i : ∀ Γ', Φ Γ' → Ψ Γ') : Xg X C tg vs d Γ Ψ := ⟨fun B H σ v R hd Q k => h.run B H σ v R hd Q fun σ' Γ' R' k' l' q => k σ' Γ' R' k' l' (i _ q)⟩
theorem Xts.mono {Φ Ψ : Bool → GS → Prop} (h : Xts X C ifs Γ Φ) (i : ∀ d Γ', Φ d Γ' → Ψ d Γ') : Xts X C ifs Γ Ψ := ⟨fun B H σ R Q k => h.run B H σ R Q fun b B' H' Γ' s R' q => k b B' H' Γ' s R' (i _ _ q)⟩
theorem LcTurn.mono {own : List Nat} {d : PyData} {no no' : GS → Prop} {yes yes' : PyData → GS → Prop} (h : LcTurn X C tg elt ifs scope own d Γ no yes) (i : ∀ Γ', no Γ' → no' Γ') (j : ∀ y Γ', yes y Γ' → yes' y Γ') : LcTurn X C tg elt ifs scope own d Γ no' yes' :=
  ⟨h.1, fun s H Ca cl fp C' hC => (h.2 s H Ca cl fp C' hC).mono fun Γ3 hx s H Ca cl fp => (hx s H Ca cl fp).mono fun k Γ4 ⟨h1, h2⟩ => ⟨fun e => i _ (h1 e), fun e s H Ca cl fp => (h2 e s H Ca cl fp).mono fun y Γ5 q => j _ _ q⟩⟩
/-- a comprehension that changes no name's own list or dict: f of the items that p keeps -/
theorem lc_pure {own : List Nat} {Ψ : List PyData → GS → Prop} (h : Xi X C tg iter Γ fun n item Γ1 => n ≤ 1000000 ∧ ∃ (q : Nat → Bool) (f : Nat → PyData), (∀ i, i < n → LcTurn X C tg elt ifs scope own (item i) Γ1 (fun Γ' => Γ' = Γ1 ∧ q i = false) fun y Γ' => Γ' = Γ1 ∧ q i = true ∧ y = f i) ∧ Ψ (((List.range n).filter q).map f) Γ1) :
    LcAsk X C tg iter elt ifs scope own Γ Ψ :=
  ⟨fun B H σ Rl Rr k => h.run B H σ Rl Rr fun J n item B' H' Γ' s R' ok ⟨hz, q, f, ht, he⟩ => k J n item B' H' Γ' s R' ok
    ⟨fun i acc Γ2 => Γ2 = Γ' ∧ acc = ((List.range i).filter q).map f, ⟨rfl, rfl⟩, fun i acc Γ2 hi ⟨e1, e2⟩ => by
      subst e1
      refine (ht i hi).mono (fun Γ5 ⟨e3, e4⟩ => ⟨e3, ?_⟩) fun y Γ5 ⟨e3, e4, e5⟩ => ⟨?_, e3, ?_⟩
      · rw [e2, List.range_succ, List.filter_append, List.map_append]
        simp [e4]
      · rw [e2, List.length_map]
        refine Nat.le_trans (List.length_filter_le _ _) ?_
        rw [List.length_range]
        omega
      · rw [e2, List.range_succ, List.filter_append, List.map_append]
        simp [e4, e5], fun acc Γ2 ⟨e1, e2⟩ => by rw [e1, e2]; exact he⟩⟩
theorem range_filter_map {α : Type} (xs : List α) (d : α) (q : α → Bool) (f : α → PyData) : ((List.range xs.length).filter fun i => q (xs.getD i d)).map (fun i => f (xs.getD i d)) = (xs.filter q).map f := by
  have e : xs = (List.range xs.length).map fun i => xs.getD i d := by
    refine List.ext_getElem? fun i => ?_
    rw [List.getElem?_map]
    by_cases h : i < xs.length
    · rw [List.getElem?_eq_getElem h, List.getElem?_eq_getElem (by simpa using h)]
      simp [List.getD_eq_getElem?_getD, List.getElem?_eq_getElem h]
    · rw [List.getElem?_eq_none (by omega), List.getElem?_eq_none (by simpa using h)]
      rfl
  have e2 : (xs.filter q).map f = ((((List.range xs.length).map fun i => xs.getD i d)).filter q).map f := by rw [← e]
  rw [e2, List.filter_map, List.map_map]
  rfl

/-! ### zip, ranges with a step -/
theorem itz_ok {K : PySem.W.Frag} {F B1 : Hp} {a b : Addr} {vs ws : List V} {ds es : List PyData} (ha : SqL K B1 a vs) (hb : SqL K B1 b ws) (hd : DpAll K B1 vs ds) (he : DpAll K B1 ws es) : ItOk K F B1 (Itz K a b) (min ds.length es.length) (fun i => .tuple [ds.getD i .none, es.getD i .none]) := fun i B H s bh _ => by
  have hH := sqL_mono (s.trans bh) ha
  have hH2 := sqL_mono (s.trans bh) hb
  have hl := dpAll_len hd
  have hl2 := dpAll_len he
  refine ⟨fun hi => ⟨vs, ws, vs[i]'(by omega), ws[i]'(by omega), hH, hH2, List.getElem?_eq_getElem (by omega), List.getElem?_eq_getElem (by omega)⟩, fun hi => ⟨vs, ws, hH, hH2, by omega⟩, fun x H' hi hy => ?_⟩
  obtain ⟨T, u, v, rfl, hT, rfl, h1, h2⟩ := hy
  obtain ⟨d, hd1, hd2⟩ := dpAll_get' hd (h1 vs hH)
  obtain ⟨e, he1, he2⟩ := dpAll_get' he (h2 ws hH2)
  refine ⟨upd B T (.tup [u, v]), Grow.new bh hT, ?_⟩
  show Dp K _ _ (.tuple [ds.getD i .none, es.getD i .none])
  rw [List.getD_eq_getElem?_getD, List.getD_eq_getElem?_getD, hd1, he1]
  have sB := same_upd (o := .tup [u, v]) (bh.free hT)
  exact .tup (SqT.of upd_same) (.cons (dp_mono (s.trans sB) _ _ hd2) (.cons (dp_mono (s.trans sB) _ _ he2) .nil))
theorem xi_zip {elts : List Expr} {kk : Nat} {tpos : Pos} {Ψ : Nat → (Nat → PyData) → GS → Prop} (hm : X.mg "zip" = none) (h : Xa X C [a, b] Γ fun ds Γ1 => ∃ xs ys, ds = [.list xs, .list ys] ∧ Ψ (min xs.length ys.length) (fun i => .tuple [xs.getD i .none, ys.getD i .none]) Γ1)
    (hg : Gl X "zip" := by rfl) (hs : starEach [a, b] X.env = (false, eval a X.env) :: starEach [b] X.env := by rfl) (hpl : (backTo pos (starEach [b] X.env)).any (·.1) = false := by rfl) : Xi X C (.Tuple elts kk tpos) (.Call (.Name "zip" p) [a, b] [] pos) Γ Ψ :=
  ⟨fun B H σ Rl R k => wpi_of (pi_zip hg hm pa_w hs hpl) (h.run B H σ Rl _ fun vs B1 H1 Γ1 ds s1 R1 hd ⟨xs, ys, e1, q⟩ => by
    subst e1
    cases hd with
    | cons h1 h2 =>
      cases h2 with
      | cons h2 h3 =>
        cases h3
        obtain ⟨r1, ws1, rfl, z1, z2⟩ := dp_lst h1
        obtain ⟨r2, ws2, rfl, z3, z4⟩ := dp_lst h2
        exact ⟨r1, r2, ws1, ws2, rfl, sqL_mono R1.bh z1, sqL_mono R1.bh z3, k _ _ _ B1 H1 Γ1 s1 R1 (itz_ok z1 z3 z2 z4) q⟩)⟩
theorem itc_ok {K : PySem.W.Frag} {F B1 : Hp} {lo c : Int} {n : Nat} : ItOk K F B1 (Itc lo c n) n (fun i => .int (lo + (i : Nat) * c)) := fun i B H s bh _ =>
  ⟨fun hi => hi, fun hi => hi, fun x H' hi hy => by
    obtain ⟨rfl, rfl⟩ := hy
    exact ⟨B, Grow.refl bh, .int _⟩⟩
/-- range(i, j, -1) -/
theorem xi_down {Ψ : Nat → (Nat → PyData) → GS → Prop} (hm : X.mg "range" = none) (h : Xa X C [a, b, c] Γ fun ds Γ1 => ∃ i j : Int, ds = [.int i, .int j, .int (-1)] ∧ -1000000 ≤ i ∧ i ≤ 1000000 ∧ -1000000 ≤ j ∧ j ≤ 1000000 ∧ Ψ (i - j).toNat (fun k => .int (i + (k : Nat) * (-1))) Γ1)
    (hg : Gl X "range" := by rfl) (hs : starEach [a, b, c] X.env = (false, eval a X.env) :: starEach [b, c] X.env := by rfl) (hpl : (backTo pos (starEach [b, c] X.env)).any (·.1) = false := by rfl) : Xi X C tg (.Call (.Name "range" p) [a, b, c] [] pos) Γ Ψ :=
  ⟨fun B H σ Rl R k => wpi_of (pi_range3 hg hm pa_w hs hpl) (h.run B H σ Rl _ fun vs B1 H1 Γ1 ds s1 R1 hd ⟨i, j, e1, h1, h2, h3, h4, q⟩ => by
    subst e1
    cases dpAll_int (ns := [i, j, -1]) hd
    exact ⟨i, j, -1, _, rfl, RgC.neg (by omega) (by omega) (by omega) (by omega), k _ _ _ B1 H1 Γ1 s1 R1 itc_ok q⟩)⟩
end

/-! ### a def's body -/
theorem start_rel {K : PySem.W.Frag} {B H : Hp} {N : List Str} {vs : List V} {ds : List PyData} (bh : Same B H) (hd : DpAll K B vs ds) (hl : ds.length ≤ N.length) : Rel K ⟨H, B, []⟩ B H (L2.start N vs) (ds.map .val ++ List.replicate (N.length - ds.length) .no) where
  fh := Same.refl H
  b0 := Same.refl B
  bh := bh
  fr := fun _ _ _ n => n
  len := by
    unfold L2.start
    rw [List.length_append, List.length_append, List.length_map, List.length_map, List.length_replicate, List.length_replicate, dpAll_len hd]
  at_ := fun i g e => by
    have hl2 := dpAll_len hd
    unfold L2.start
    by_cases hi : i < ds.length
    · rw [List.getElem?_append_left (by simpa using hi), List.getElem?_map, List.getElem?_eq_getElem hi] at e
      cases e
      obtain ⟨v, hv, dv⟩ := dpAll_get hd (List.getElem?_eq_getElem hi)
      exact ⟨some v, by rw [List.getElem?_append_left (by simp; omega), List.getElem?_map, hv]; rfl, v, rfl, dv⟩
    · rw [List.getElem?_append_right (by simpa using hi), List.getElem?_replicate] at e
      split at e
      · cases e
        rename_i hlt
        rw [List.length_map] at hlt
        exact ⟨none, by rw [List.getElem?_append_right (by simp; omega), List.getElem?_replicate, if_pos (by simp; omega)], trivial⟩
      · cases e
  dis := fun i j gi gj p ei ej mi mj => by
    have no : ∀ {i : Nat} {g : GE}, (ds.map GE.val ++ List.replicate (N.length - ds.length) GE.no)[i]? = some g → g.mu = false := fun {i g} e => by
      rcases List.mem_append.mp (List.mem_of_getElem? e) with h | h
      · obtain ⟨d, _, rfl⟩ := List.mem_map.mp h; rfl
      · rw [List.eq_of_mem_replicate h] <;> rfl
    rw [no ei] at mi; cases mi
  pin := fun q hq => nomatch hq
theorem start_relM {K : PySem.W.Frag} {B H : Hp} {N : List Str} {p : Addr} {vs ws : List V} {pl ds : List PyData} (bh : Same B H) (hp : H p = some (.lst ws)) (hb : B p = none) (hw : DpAll K B ws pl) (hd : DpAll K B vs ds) (hl : ds.length + 1 ≤ N.length) :
    Rel K ⟨delH H p, B, [(0, p)]⟩ B H (L2.start N (.ref p :: vs)) (.lst pl :: (ds.map .val ++ List.replicate (N.length - (ds.length + 1)) .no)) where
  fh := fun b o e => by
    by_cases hbp : b = p
    · have e : delH H p b = some o := e
      rw [hbp, delH_same] at e; cases e
    · have e : delH H p b = some o := e
      rw [delH_ne hbp] at e; exact e
  b0 := Same.refl B
  bh := bh
  fr := fun _ _ _ n => n
  len := by
    unfold L2.start
    have := dpAll_len hd
    simp
    omega
  at_ := fun i g e => by
    have hl2 := dpAll_len hd
    cases i with
    | zero => cases e; exact ⟨_, rfl, p, ws, rfl, hp, delH_same, hb, hw⟩
    | succ i =>
      have e : (ds.map GE.val ++ List.replicate (N.length - (ds.length + 1)) GE.no)[i]? = some g := by simpa using e
      show ∃ o, (some (V.ref p) :: (vs.map some ++ List.replicate (N.length - (vs.length + 1)) none))[i + 1]? = some o ∧ _
      rw [List.getElem?_cons_succ]
      by_cases hi : i < ds.length
      · rw [List.getElem?_append_left (by simpa using hi), List.getElem?_map, List.getElem?_eq_getElem hi] at e
        cases e
        obtain ⟨v, hv, dv⟩ := dpAll_get hd (List.getElem?_eq_getElem hi)
        exact ⟨some v, by rw [List.getElem?_append_left (by simp; omega), List.getElem?_map, hv]; rfl, v, rfl, dv⟩
      · rw [List.getElem?_append_right (by simpa using hi), List.getElem?_replicate] at e
        split at e
        · cases e
          rename_i hlt
          rw [List.length_map] at hlt
          exact ⟨none, by rw [List.getElem?_append_right (by simp; omega), List.getElem?_replicate, if_pos (by simp; omega)], trivial⟩
        · cases e
  dis := fun i j gi gj r ei ej mi mj => by
    have no : ∀ {i : Nat} {g : GE}, (ds.map GE.val ++ List.replicate (N.length - (ds.length + 1)) GE.no)[i]? = some g → g.mu = false := fun {i g} e => by
      rcases List.mem_append.mp (List.mem_of_getElem? e) with h | h
      · obtain ⟨d, _, rfl⟩ := List.mem_map.mp h; rfl
      · rw [List.eq_of_mem_replicate h] <;> rfl
    cases i with
    | zero =>
      cases j with
      | zero => intros; rfl
      | succ j => rw [no (by simpa using ej)] at mj; cases mj
    | succ i => rw [no (by simpa using ei)] at mi; cases mi
  pin := fun q hq => by
    rcases List.mem_singleton.mp hq with rfl
    exact ⟨rfl, _, rfl, rfl⟩
section
variable {P : Program} {w : World} {K : PySem.W.Frag} {mg : Str → Option Value} {base : Heap}
abbrev bodyX (P : Program) (w : World) (K : PySem.W.Frag) (mg : Str → Option Value) (base : Heap) (N : List Str) (qual : Str) (scope : Scope) (f : Addr) (cdv : Value) (A : Around) (outer : List Env) (s : Shared) (H : Hp) (E : XK) : Cx :=
  (cxOf CX0 P w K mg base N qual scope f cdv A outer s H E).nox
/-- a def of the text as the top has left it -/
structure Def (K : PySem.W.Frag) (mg : Str → Option Value) (x : Str) (st : Stmt) (ps : List Str) : Prop where
  ex : ∃ (f : Addr) (fd : FuncData), Fun K x x st f fd ∧ mg x = some (.ref f) ∧ Binds K fd ps []
theorem def_pure {x : Str} {st : Stmt} {N ps : List Str} {k : Nat} {g : List PyData → (PyData → Prop) → Prop} (D : Def K mg x st ps) (S : FnScope N ps (defScope st)) (len : ∀ ds Φ, g ds Φ → ds.length = ps.length)
    (body : ∀ (f : Addr) (cdv : Value) (A : Around) (outer : List Env) (s : Shared) (H B : Hp) (E : XK) (ds : List PyData) (Φ : PyData → Prop), Room k (A.deeper (PyProof.Rows.envOfC x (defScope st) s.heap.objs.size f cdv)) → g ds Φ →
      Xb (bodyX P w K mg base N x (defScope st) f cdv A outer s H E) ⟨H, B, []⟩ (defBody st) (ds.map .val ++ List.replicate (N.length - ds.length) .no) (fun _ => Φ .none) (fun d _ => Φ d)) : Cal P w K mg base (k + 1) x (spP K g) := by
  obtain ⟨f, fd, F, hm, hb⟩ := D.ex
  have hpl : ps.length ≤ N.length := by have := congrArg List.length S.pre; rw [List.length_take] at this; omega
  refine ⟨f, fd, ps, F.ok S (fun vs H Q E h => ?_) (fun cdv A outer s H vs Q E hr h => ?_), hm, F.kp, hb⟩
  · obtain ⟨B, ds, Φ, bh, hd, hg, _⟩ := h
    rw [dpAll_len hd, len ds Φ hg]
  · obtain ⟨B, ds, Φ, bh, hd, hg, hq⟩ := h
    refine ⟨wpb (bodyX P w K mg base N x (defScope st) f cdv A outer s H E) (defBody st), pb_w, ?_⟩
    have hl := len ds Φ hg
    refine (body f cdv A outer s H B E ds Φ hr hg).run B H _ (start_rel (K := K) bh hd (by omega)) _ (fun B' H' σ' Γ' s' R' q => ?_) fun v B' H' σ' Γ' d s' R' hv q => ?_
    · exact hq _ B' H' _ ⟨s', R'.fh, R'.bh, R'.fr⟩ .non q
    · exact hq v B' H' d ⟨s', R'.fh, R'.bh, R'.fr⟩ hv q
theorem def_mut {x : Str} {st : Stmt} {N ps : List Str} {k : Nat} {g : List PyData → List PyData → (PyData → List PyData → Prop) → Prop} (D : Def K mg x st ps) (S : FnScope N ps (defScope st)) (len : ∀ pl ds Φ, g pl ds Φ → ds.length + 1 = ps.length)
    (body : ∀ (f : Addr) (cdv : Value) (A : Around) (outer : List Env) (s : Shared) (H B : Hp) (E : XK) (p : Addr) (pl ds : List PyData) (Φ : PyData → List PyData → Prop), Room k (A.deeper (PyProof.Rows.envOfC x (defScope st) s.heap.objs.size f cdv)) → g pl ds Φ →
      Xb (bodyX P w K mg base N x (defScope st) f cdv A outer s H E) ⟨delH H p, B, [(0, p)]⟩ (defBody st) (.lst pl :: (ds.map .val ++ List.replicate (N.length - (ds.length + 1)) .no)) (fun Γ' => ∃ pl', Γ'[0]? = some (.lst pl') ∧ Φ .none pl') (fun d Γ' => ∃ pl', Γ'[0]? = some (.lst pl') ∧ Φ d pl')) : Cal P w K mg base (k + 1) x (spM K g) := by
  obtain ⟨f, fd, F, hm, hb⟩ := D.ex
  have hpl : ps.length ≤ N.length := by have := congrArg List.length S.pre; rw [List.length_take] at this; omega
  refine ⟨f, fd, ps, F.ok S (fun vs H Q E h => ?_) (fun cdv A outer s H vs Q E hr h => ?_), hm, F.kp, hb⟩
  · obtain ⟨B, p, vs', ws, pl, ds, Φ, rfl, bh, hp, hbp, hw, hd, hg, _⟩ := h
    rw [List.length_cons, dpAll_len hd, len pl ds Φ hg]
  · obtain ⟨B, p, vs', ws, pl, ds, Φ, rfl, bh, hp, hbp, hw, hd, hg, hq⟩ := h
    refine ⟨wpb (bodyX P w K mg base N x (defScope st) f cdv A outer s H E) (defBody st), pb_w, ?_⟩
    have hl := len pl ds Φ hg
    have fin : ∀ {B' H' : Hp} {σ' : L2.St} {Γ' : GS} {pl' : List PyData}, Same B B' → Rel K ⟨delH H p, B, [(0, p)]⟩ B' H' σ' Γ' → Γ'[0]? = some (.lst pl') → ∃ ws', Same B B' ∧ Same B' H' ∧ (∀ b o, b ≠ p → H b = some o → H' b = some o) ∧ (∀ b o, H b = some o → B b = none → B' b = none) ∧ H' p = some (.lst ws') ∧ DpAll K B' ws' pl' := fun {B' H' σ' Γ' pl'} s' R' e => by
      obtain ⟨r, ws', e1, e2, e3, e4, e5⟩ := R'.lst e
      obtain ⟨z1, _⟩ := R'.pin (0, p) (List.mem_singleton.mpr rfl)
      have z1 : σ'[0]? = some (some (.ref p)) := z1
      rw [z1] at e1; cases e1
      refine ⟨ws', s', R'.bh, fun b o hb z => R'.fh b o (by show delH H p b = some o; rw [delH_ne hb]; exact z), fun b o z n => ?_, e2, e5⟩
      by_cases hb : b = p
      · rw [hb]; exact e4
      · exact R'.fr b o (by show delH H p b = some o; rw [delH_ne hb]; exact z) n
    refine (body f cdv A outer s H B E p pl ds Φ hr hg).run B H _ (start_relM (K := K) bh hp hbp hw hd (by omega)) _ (fun B' H' σ' Γ' s' R' ⟨pl', e, q⟩ => ?_) fun v B' H' σ' Γ' d s' R' hv ⟨pl', e, q⟩ => ?_
    · obtain ⟨ws', f1, f2, f3, f4, f5, f6⟩ := fin s' R' e
      exact hq _ B' H' _ ws' pl' f1 f2 f3 f4 f5 f6 .non q
    · obtain ⟨ws', f1, f2, f3, f4, f5, f6⟩ := fin s' R' e
      exact hq v B' H' d ws' pl' f1 f2 f3 f4 f5 f6 hv q
end
end Gh
end

section
/-! Comprehensions as values, dicts, the bodies of defs. -/
namespace Gh
open PySem L2
section
variable {X : Cx} {C : GC} {Γ : GS} {a b c e tg iter elt : Expr} {es ifs : List Expr} {pos p p2 spos : Pos} {Φ : PK} {N : GS → Prop} {R : PyData → GS → Prop} {scope : Scope}
theorem lq {a b : Nat} (h : Nat.ble (a + 1) b = true) : a < b := Nat.le_of_ble_eq_true h
theorem fr0 {i : Nat} (h : C.ps = []) : Free C Γ i := .inr (by rw [h]; exact fun _ h => nomatch h)
theorem fr1 {i j : Nat} {p : Addr} (h : C.ps = [(j, p)]) (hi : Nat.beq j i = false) : Free C Γ i := .inr (by
  rw [h]
  intro q hq
  rcases List.mem_singleton.mp hq with rfl
  exact fun e => by
    have e : j = i := e
    subst e
    exact absurd hi (by rw [show Nat.beq j j = true from Nat.beq_refl j]; decide))
theorem xgs_nm (i : Nat) {x : Str} {ts : List Expr} {d : PyData} {ds : List PyData} {ws : List Nat} {Φ : GS → Prop} (hi : i < Γ.length) (hf : Free C Γ i) (h : Xgs X C ts ws ds (Γ.set i (.val d)) Φ) (hN : X.N.Nodup) (hiN : X.N[i]? = some x := by rfl) (hx : Loc X.env.scope x := by first | exact Or.inl rfl | exact Or.inr rfl)
    (hff : X.fn x = true ∨ X.env.scope.names.lookup x = some .local := by first | exact .inl rfl | exact .inr rfl | assumption)
    (hs : (assignEach (.Name x pos :: ts) X.env).map (·.2) = assign (.Name x pos) X.env :: (assignEach ts X.env).map (·.2) := by rfl) : Xgs X C (.Name x pos :: ts) (i :: ws) (d :: ds) Γ Φ :=
  xgs_cons (vs := [i]) (xg_name i hi hf h hN hiN hx hff) hs
theorem atN {α : Type} {xs : List α} {i : Nat} {k : Int} {a : α} (h : xs[i]? = some a) (e : k = (i : Int)) : atI xs k = some a := by
  have hi : i < xs.length := (List.getElem?_eq_some_iff.mp h).1
  unfold atI ixN
  rw [if_pos (by omega), if_pos (by omega)]
  subst e
  simpa using h
theorem atNM {α β : Type} {xs : List α} {f : α → β} {i : Nat} {k : Int} {a : α} (h : xs[i]? = some a) (e : k = (i : Int)) : atI (xs.map f) k = some (f a) :=
  atN (by rw [List.getElem?_map, h]; rfl) e
theorem atL {α : Type} {xs : List α} {a : α} (h : xs.getLast? = some a) : atI xs (-1) = some a := by
  rw [List.getLast?_eq_getElem?] at h
  have hi := (List.getElem?_eq_some_iff.mp h).1
  unfold atI ixN
  rw [if_neg (by omega), if_pos (by omega)]
  have : ((-1 : Int) + xs.length).toNat = xs.length - 1 := by omega
  simpa [this] using h
theorem getD_map {α β : Type} {xs : List α} {f : α → β} {i : Nat} {d : β} (h : i < xs.length) : (xs.map f).getD i d = f xs[i] := by
  simp [List.getD_eq_getElem?_getD, h]
theorem take_one {α : Type} {xs : List α} {i : Nat} (h : i < xs.length) : xs.take (i + 1) = xs.take i ++ [xs[i]] := by simp
end
end Gh
end

section
/-! Sorting of tuples of which the first has no item. -/
namespace PySem.SeqAt
open PySem PySem.Calls
variable {A : Around} {s : Shared}
theorem call_tuple_lt0 {prog : Program} {w : World} {E : Value → Shared → Prop} {Q : Value → Shared → Prop} {l b : Addr} {items items2 : Array Value} {e r : Nat → Bool} (hl : s.heap.IsTuple l items) (hb : s.heap.IsTuple b items2)
    (he : ∀ j (h1 : j < items.size) (h2 : j < items2.size), EqAt A.in1 s items[j] items2[j] (e j)) (hr : ∀ j (h1 : j < items.size) (h2 : j < items2.size), e j = false → RcLt A.in1 s items[j] items2[j] (r j))
    (h : Q (.bool (firstLt e r (decide (items.size < items2.size)) (List.range (min items.size items2.size)))) s) : wpAny (model prog w) A (call (.builtin "tuple.__lt__") [.ref l, .ref b]) Q E s := by
  obtain ⟨⟨cls, dd, data, sl⟩, ho, hc, n, hd⟩ := id hl
  obtain ⟨⟨cls2, dd2, data2, sl2⟩, ho2, hc2, n2, hd2⟩ := id hb
  simp only at hc hd hc2 hd2
  subst hc hd hc2 hd2
  exact call_meets F.slot_tuple_lt ⟨_, ho, rfl⟩ F.entry_tuple_lt (F.args_tuple_lt_2 _ _) (tuple_ltAt l b items items2 n n2 dd dd2 sl sl2 e r) ⟨ho, ho2, he, hr, h⟩
end PySem.SeqAt
namespace PySem.W
open PySem PySem.Calls PyProof.Rows PySem.SeqAt
section
variable {prog : Program} {w : World} {A : Around} {s : Shared} {E : Value → Shared → Prop}
theorem oneLt_tups {xs ys : List PyData} {a b : Value} {as bs : List Addr} {Q : Bool → Shared → Prop} (ra : Reads s.heap a (.tuple xs) as) (rb : Reads s.heap b (.tuple ys) bs) (h : alike (.tuple xs) (.tuple ys) = true)
    (hu : A.units + min (PyData.tuple xs).depth (PyData.tuple ys).depth < cLine) (hq : Q (dataLt (.tuple xs) (.tuple ys)) s) : wpAny (model prog w) A (oneLt' true a b) Q E s := by
  have hal : alikeAll xs ys = true := by simpa [alike] using h
  cases ra with
  | @tuple l o vs n _ as₁ h1 h2 h3 h4 =>
    cases rb with
    | @tuple l' o' vs' n' _ bs₁ k1 k2 k3 k4 =>
      have n1 : vs.size = xs.length := by simpa using SeqAt.ReadsAll.length _ _ _ h4
      have n2 : vs'.size = ys.length := by simpa using SeqAt.ReadsAll.length _ _ _ k4
      rw [dataLt_tuple, ← firstLt_toks xs ys hal, ← n1, ← n2] at hq
      rw [oneLt'_eq]
      simp only [if_true]
      refine wpAny_bind (wpAny_cRoomFor (room_here hu) ?_)
      refine wpAny_bind (wpAny_callSpecialIfBound?_slot (T := "tuple") ⟨_, h1, h2⟩ F.slot_tuple_lt (call_tuple_lt0 (e := pairEq xs ys) (r := fun j => dataLt (xs.getD j .none) (ys.getD j .none)) ⟨_, h1, h2, _, h3⟩ ⟨_, k1, k2, _, k3⟩ (fun j j1 j2 => ?_) (fun j j1 j2 hj => ?_) ?_))
      · have := eqAt_alikeAll xs ys A.in1 s vs.toList vs'.toList _ _ h4 k4 hal (room_in hu) j (by simpa using j1) (by simpa using j2)
        simpa using this
      · have := rcLt_alikeAll xs ys A.in1 s vs.toList vs'.toList _ _ h4 k4 hal (room_in hu) j (by simpa using j1) (by simpa using j2) hj
        simpa using this
      · exact wpAny_truthy_bool hq
theorem first_tup {M : Model} {v : Value} {xs : List PyData} {as : List Addr} {Q : Option Value → Shared → Prop} (r : Reads s.heap v (.tuple xs) as) (h : ∀ o, (xs = [] → o = none) → Q o s) : wpAny M A (firstOfTuple' v) Q E s := by
  cases r with
  | @tuple l o vs n _ as₁ h1 h2 h3 h4 =>
    have n1 : vs.size = xs.length := by simpa using SeqAt.ReadsAll.length _ _ _ h4
    rw [kas_first_eq]
    refine wpAny_bind (Looks.here (show Looks M s.heap (typeOf (.ref l)) o.cls from (Looks.ld h1).andThen .now) ?_)
    rw [h2, if_neg (by first | decide | simp)]
    refine wpAny_bind (listItems_at h1 h3 (wpAny_pure ?_))
    refine h _ fun e => ?_
    subst e
    exact Array.getElem?_eq_none (by rw [n1]; exact Nat.zero_le _)
theorem firsts_any {M : Model} : ∀ (vs : List Value) {ds : List PyData} {Q : List (Option Value) → Shared → Prop}, EachIs (fun v d => ∃ as, Reads s.heap v d as) vs ds → (∀ d ∈ ds, ∃ xs, d = .tuple xs) → (∀ rs, Q rs s) → wpAny M A (vs.mapM firstOfTuple') Q E s
  | [], _, _, _, _, h => by rw [List.mapM_nil]; exact wpAny_pure (h _)
  | v :: vs, ds, Q, e, ht, h => by
    cases e with
    | @cons _ d _ ds' h1 h2 =>
      obtain ⟨as, r⟩ := h1
      obtain ⟨xs, rfl⟩ := ht d List.mem_cons_self
      rw [List.mapM_cons]
      exact wpAny_bind (first_tup r fun o _ => wpAny_bind (firsts_any vs (Q := fun bs s' => wpAny M A (pure (o :: bs)) Q E s') h2 (fun d hd => ht d (List.mem_cons_of_mem _ hd)) fun rs => wpAny_pure (h _)))
theorem kind_tups {M : Model} {v : Value} {vs : List Value} {ds : List PyData} {Q : SortKind → Shared → Prop} (r : ∃ as, Reads s.heap v (.tuple []) as) (e : EachIs (fun v d => ∃ as, Reads s.heap v d as) vs ds) (ht : ∀ d ∈ ds, ∃ xs, d = .tuple xs) (h : Q oneType' s) : wpAny M A (keyKind' (v :: vs).toArray) Q E s := by
  have hT : ∀ u ∈ v :: vs, Looks M s.heap (typeOf u) (.type "tuple") := fun u hu => by
    rcases List.mem_cons.mp hu with rfl | hu
    · obtain ⟨as, r⟩ := r
      exact looks_reads r
    · obtain ⟨d, hd, as, r⟩ := e.left u hu
      obtain ⟨xs, rfl⟩ := ht d hd
      exact looks_reads r
  rw [kat_kind_eq, List.mapM_toArray, map_eq_pure_bind, List.mapM_cons]
  obtain ⟨as, r⟩ := r
  refine wpAny_bind (wpAny_bind (wpAny_bind (first_tup r fun o ho => wpAny_bind (firsts_any vs e ht fun rs => wpAny_pure (wpAny_pure ?_)))))
  rw [ho rfl]
  rw [if_neg (by simp), if_neg (by simp)]
  rw [oneTypeOnly'_eq, List.mapM_toArray, map_eq_pure_bind]
  refine wpAny_bind (wpAny_bind (wpAny_bind (kas_mapM (r := Value.type "tuple") _ (fun v hv Q' hq => (hT v hv).here hq) (wpAny_pure ?_))))
  have hall : ((List.map (fun _ => Value.type "tuple") (v :: vs)).toArray.all fun x => x == Value.type "tuple") = true := by
    simp only [List.all_toArray, List.all_map, List.all_eq_true]
    intro _ _
    exact beq_self_eq_true _
  have h0 : (List.map (fun _ => Value.type "tuple") (v :: vs)).toArray[0]? = some (Value.type "tuple") := by simp
  rw [h0]
  simp only [hall, if_true]
  exact wpAny_pure (wpAny_pure h)
theorem SortsAt.tups {vs : List Value} {ds : List PyData} (e : EachIs (fun v d => ∃ as, Reads s.heap v d as) vs (.tuple [] :: ds)) (hal : AllAlike (.tuple [] :: ds)) (ht : ∀ d ∈ ds, ∃ xs, d = .tuple xs) (hu : ∀ d, d ∈ PyData.tuple [] :: ds → A.units + d.depth < cLine) : SortsAt prog w A s (dataKind s.heap (.tuple [] :: ds)) vs := by
  have ht' : ∀ d ∈ PyData.tuple [] :: ds, ∃ xs, d = .tuple xs := fun d hd => by
    rcases List.mem_cons.mp hd with rfl | hd
    · exact ⟨_, rfl⟩
    · exact ht d hd
  refine ⟨fun v hv => ?_, ?_⟩
  · obtain ⟨d, hd, as, r⟩ := e.left v hv
    exact ⟨_, dataKind_some hal hd r⟩
  · refine ⟨oneType', ?_, fun h2 E Q hq => ?_⟩
    · intro E x y a b Q ha hb hq
      obtain ⟨d, as, hd, ra, rfl⟩ := dataKind_inv ha
      obtain ⟨d', as', hd', rb, rfl⟩ := dataKind_inv hb
      obtain ⟨xs, rfl⟩ := ht' d hd
      obtain ⟨ys, rfl⟩ := ht' d' hd'
      rw [keyLt'_oneType]
      exact oneLt_tups ra rb (hal _ hd _ hd') (Nat.lt_of_le_of_lt (Nat.add_le_add_left (Nat.min_le_left _ _) _) (hu _ hd)) hq
    · cases e with
      | @cons v _ vs' _ h1 h2 => exact kind_tups h1 h2 ht hq
theorem sorted_tups {vs : List Value} {ds : List PyData} {R : Value → PyData → Prop} {l : Addr} {Q : Value → Shared → Prop} (hl : s.heap.IsList l vs.toArray) (e : EachIs R vs (.tuple [] :: ds)) (er : EachIs (fun v b => ∃ as, Reads s.heap v b as) vs (.tuple [] :: ds)) (hal : AllAlike (.tuple [] :: ds))
    (ht : ∀ d ∈ ds, ∃ xs, d = .tuple xs) (hL : (PyData.tuple [] :: ds).length ≤ sizeLine)
    (hu : ∀ b, b ∈ PyData.tuple [] :: ds → A.units + 2 + b.depth < cLine) (h : ∀ out, out.length = (PyData.tuple [] :: ds).length → EachIs R out ((PyData.tuple [] :: ds).mergeSort (dataLe false id)) → Q (.ref (s.heap.objs.size + 1)) { s with heap := sortedAll s.heap vs (List.toArray out) }) :
    wpAny (model prog w) A (call (.builtin "sorted") [.ref l]) Q E s := by
  have er' : EachIs (fun v b => ∃ as, Reads (sortingHeap (copyHeap s.heap vs) (s.heap.objs.size + 1) vs) v (id b) as) vs (.tuple [] :: ds) := er.mono fun _ _ ⟨as, r⟩ => ⟨as, PyProof.Rows.Reads.keeps (fun _ _ => sorting_copy_old) r⟩
  have e2 := sortVals_data (h' := sortingHeap (copyHeap s.heap vs) (s.heap.objs.size + 1) vs) (enc := id) false e er' (by simpa using hal)
  rw [List.map_id] at e2
  exact sorted_vals hl (SortsAt.tups (s := { s with heap := sortingHeap (copyHeap s.heap vs) (s.heap.objs.size + 1) vs }) er' hal ht hu) (by rw [e.length]; exact hL)
    (h _ (by rw [sortVals_length false rfl]; exact e.length) e2)
end
end PySem.W
namespace Gh
open PySem L2
section
variable {X : Cx} {C : GC} {Γ : GS} {a b c e tg iter elt : Expr} {es ifs : List Expr} {pos p p2 spos : Pos} {Φ : PK} {N : GS → Prop} {R : PyData → GS → Prop} {scope : Scope}
def rSortedE (K : PySem.W.Frag) : List V → Hp → VK → Prop := fun xs H Q => ∃ (a : Addr) (B : Hp) (vs : List V) (ds : List PyData), xs = [.ref a] ∧ Same B H ∧ SqL K H a vs ∧ DpAll K B vs (.tuple [] :: ds) ∧ PySem.W.AllAlike (.tuple [] :: ds) ∧ (∀ d ∈ ds, ∃ xs, d = .tuple xs) ∧ (∀ d ∈ PyData.tuple [] :: ds, d.depth ≤ 30) ∧
  ∀ (ws : List V) (t : Addr), DpAll K B ws ((PyData.tuple [] :: ds).mergeSort (PySem.W.dataLe false id)) → H t = none → Q (.ref t) (upd H t (.lst ws))
theorem cr_sortedE (hu : X.A.units + 64 < cLine) : CallR X (.builtin "sorted") (rSortedE X.K) := by
  intro pins s σ H xs us Q I r h
  obtain ⟨a, B, vs, ds, rfl, bh, hs, hd, al, so, dp, q⟩ := h
  obtain ⟨u, rfl, ru⟩ := vals1 r
  obtain rfl : u = Value.ref a := ru
  obtain ⟨its, rv, pl, hz⟩ := I.list hs
  obtain ⟨as, hr⟩ := dp_reads I (dpAll_mono bh _ _ hd) rv
  have er := PySem.W.readsAll_each (h := s.heap) id (vs := its) (bs := .tuple [] :: ds) (as := as) (by simpa using hr)
  have hl : (PyData.tuple [] :: ds).length = its.length := by rw [← dpAll_len hd, rv.length]
  refine PySem.W.sorted_tups (R := fun u d => ∃ v, RelV v u ∧ Dp X.K B v d) pl.isList (each_of_dp hd rv) er al so (by rw [hl, ← rv.length]; exact hz) (fun d m => by have := dp d m; show X.A.units + 2 + d.depth < _; omega) fun out ho eo => ?_
  obtain ⟨ws, w1, w2⟩ := dp_of_each eo
  obtain ⟨n, hn⟩ := PyProof.Rows.sortedAll_at s.heap its out.toArray
  have hp : H (s.heap.objs.size + 1) = none := I.hok.fresh (Nat.le_succ _)
  refine ⟨.ref _, upd H (s.heap.objs.size + 1) (.lst ws), I.laid (t' := s.toks) (fun b o e => PyProof.Rows.sortedAll_old e) (Nat.le_succ _) ⟨?_, out, n, w1, hn⟩, rfl, q ws _ w2 hp⟩
  rw [w1.length, ho, hl, ← rv.length]
  exact hz
theorem xm_sortedE {Ψ : List PyData → GS → Prop} (hu : X.A.units + 64 < cLine) (hm : X.mg "sorted" = none) (h : Xq X C a Γ fun k ds Γ1 => k = true ∧ ∃ ds', ds = .tuple [] :: ds' ∧ PySem.W.AllAlike ds ∧ (∀ d ∈ ds', ∃ xs, d = .tuple xs) ∧ (∀ d ∈ ds, d.depth ≤ 30) ∧ Ψ (ds.mergeSort (PySem.W.dataLe false id)) Γ1) (hg : Gl X "sorted" := by rfl) (he : starEach [a] X.env = [(false, eval a X.env)] := by rfl) : Xm X C (.Call (.Name "sorted" p) [a] [] pos) Γ Ψ :=
  ⟨fun B H σ R Q k => wpe_of (pe_callB (cr_sortedE hu) hg hm (by decide +kernel) (pa_cons pe_w pa_nil he) (by decide) (by decide) he (by rfl)) (h.run B H σ R _ fun r vs B1 H1 Γ1 kk ds s1 R1 hd hs ⟨e1, ds', e2, al, so, dp, q⟩ => by
    subst e2
    rcases hs with ⟨_, hs⟩ | ⟨e3, hs⟩
    · exact ⟨r, B1, vs, ds', rfl, R1.bh, hs, hd, al, so, dp, fun ws t hw ht => k t ws B1 H1 Γ1 _ s1 R1 ht hw q⟩
    · rw [e1] at e3; cases e3)⟩

/-! ### a comprehension over a name's own list -/
theorem Rel.weak {K : PySem.W.Frag} {B H : Hp} {σ : L2.St} (R : Rel K C B H σ Γ) {i : Nat} (hf : ∀ q ∈ C.ps, q.1 ≠ i) : Rel K C B H σ (Γ.set i .no) where
  fh := R.fh
  b0 := R.b0
  bh := R.bh
  fr := R.fr
  len := by rw [List.length_set]; exact R.len
  at_ := fun j gj e => by
    rcases get_set e with ⟨rfl, rfl⟩ | ⟨hj, e⟩
    · have hl : j < σ.length := by
        have := (List.getElem?_eq_some_iff.mp e).1
        rw [List.length_set, R.len] at this
        exact this
      exact ⟨σ[j], List.getElem?_eq_getElem hl, trivial⟩
    · exact R.at_ j gj e
  dis := fun j k gj gk p ej ek mj mk sj sk => by
    rcases get_set ej with ⟨rfl, rfl⟩ | ⟨hj, ej⟩
    · cases mj
    · rcases get_set ek with ⟨rfl, rfl⟩ | ⟨hk, ek⟩
      · cases mk
      · exact R.dis j k gj gk p ej ek mj mk sj sk
  pin := fun q hq => by
    obtain ⟨h1, g, h2, h3⟩ := R.pin q hq
    exact ⟨h1, g, by rw [List.getElem?_set_ne (fun z => hf q hq z.symm)]; exact h2, h3⟩
theorem Rel.lockL {K : PySem.W.Frag} {B H : Hp} {σ : L2.St} (R : Rel K C B H σ Γ) {i : Nat} {ds : List PyData} (e : Γ[i]? = some (.lst ds)) (hf : ∀ q ∈ C.ps, q.1 ≠ i) :
    ∃ p vs, σ[i]? = some (some (.ref p)) ∧ H p = some (.lst vs) ∧ C.F p = none ∧ B p = none ∧ DpAll K B vs ds ∧ Rel K (C.plus p (.lst vs)) B H σ (Γ.set i .no) := by
  obtain ⟨p, vs, h1, h2, h3, h4, h5⟩ := R.lst e
  refine ⟨p, vs, h1, h2, h3, h4, h5, (R.weak hf).plusAt h2 h3 h4 fun j g ej mj z => ?_⟩
  rcases get_set ej with ⟨rfl, rfl⟩ | ⟨hj, ej⟩
  · cases mj
  · exact hj (R.dis j i g _ p ej e mj rfl z h1)
theorem Rel.unlockL {K : PySem.W.Frag} {B H : Hp} {σ : L2.St} {p : Addr} {vs : List V} {ds : List PyData} {i : Nat} (R : Rel K (C.plus p (.lst vs)) B H σ Γ) (hF : C.F p = none) (hB : C.B0 p = none) (e : Γ[i]? = some .no) (hs : σ[i]? = some (some (.ref p))) (hf : ∀ q ∈ C.ps, q.1 ≠ i) (hd : DpAll K B vs ds) :
    Rel K C B H σ (Γ.set i (.lst ds)) := by
  have hi : i < Γ.length := (List.getElem?_eq_some_iff.mp e).1
  have := (R.unplus hF).set hi (.inr hf) (v := .ref p) (g := .lst ds) ⟨p, vs, rfl, R.keeps, hF, R.kept hB, hd⟩ fun _ j gj _ ej mj z => by
    obtain ⟨o, z1, z2⟩ := R.at_ j gj ej
    obtain ⟨q, u, y1, y2, y3, y4⟩ := z2.mut mj
    rw [z1, y1] at z
    cases z
    rw [show (C.plus p (.lst vs)).F p = some (.lst vs) from upd_same] at y3
    cases y3
  have es : σ.set i (some (.ref p)) = σ := by
    have hl : i < σ.length := (List.getElem?_eq_some_iff.mp hs).1
    rw [List.getElem?_eq_getElem hl] at hs
    rw [← Option.some.inj hs]
    exact List.set_getElem_self hl
  rw [es] at this
  exact this
/-- a comprehension over the name's own list in slot i: f of the items that q keeps -/
theorem xm_lcOwn {Ψ : List PyData → GS → Prop} (i : Nat) {x : Str} {pp : Pos} {ds : List PyData} (own : List (Str × Nat)) (hc : X.calm = true) (hN : X.N.Nodup) (ok : BlkOk X.N X.env.scope scope own) (hn : ∀ q ∈ C.ps, q.1 ∉ own.map (·.2)) (hg : Γ[i]? = some (.lst ds)) (hf : ∀ q ∈ C.ps, q.1 ≠ i) (hio : i ∉ own.map (·.2)) (hl : ds.length ≤ 1000000)
    (q : Nat → Bool) (f : Nat → PyData) (ht : ∀ j, j < ds.length → LcTurn X C tg elt ifs scope (own.map (·.2)) (ds.getD j .none) (Γ.set i .no) (fun Γ' => Γ' = Γ.set i .no ∧ q j = false) fun y Γ' => Γ' = Γ.set i .no ∧ q j = true ∧ y = f j)
    (h : Ψ (((List.range ds.length).filter q).map f) Γ) (hNi : X.N[i]? = some x := by rfl)
    (hv : Vis X.env.scope x := by first | exact Or.inl rfl | exact Or.inr (Or.inl rfl) | exact Or.inr (Or.inr rfl)) (hd : (x == ("__debug__" : Str)) = false := by decide) (hcd : (x == ("__classdict__" : Str)) = false := by decide)
    (hs : ∀ y, foldedSetIterable (.Name x pp) X.env y = pure y := by intro _; rfl) : Xm X C (.ListComp elt [⟨tg, .Name x pp, ifs, 0⟩] scope pos) Γ Ψ :=
  ⟨fun B H σ Rl Q k => by
    obtain ⟨p, vs, h1, h2, h3, h4, h5, R2⟩ := Rl.lockL hg hf
    have hB0 : C.B0 p = none := Rl.b0.free h4
    have hi : i < Γ.length := (List.getElem?_eq_some_iff.mp hg).1
    refine wpe_of (pe_lc (own := own) hc hN pi_w ok (fun s H Ca cl fp => ⟨fun pins s2 σ2 H2 v u Q2 I r h2 => h2 s H Ca cl fp pins s2 u I r⟩) (fun s H Ca cl fp => ⟨fun pins s2 σ2 H2 Q2 I h2 => h2 s H Ca cl fp pins s2 I⟩) (fun s H Ca cl fp => ⟨fun pins s2 σ2 H2 Q2 I h2 => h2 s H Ca cl fp pins s2 I⟩) hs)
      (lc_read0 (C := C.plus p (.lst vs)) (Γ := Γ.set i .no) (Pn := fun n item Γ1 => n = ds.length ∧ (item = fun j => ds.getD j .none) ∧ Γ1 = Γ.set i .no) (Ψ := fun acc Γ2 => Γ2 = Γ.set i .no ∧ acc = ((List.range ds.length).filter q).map f) (own.map fun (x : Str × Nat) => x.2) hn R2 (fun Rr kk => ?_) (fun n item Γ1 hx => ?_) fun t ws B' H0 Γ' es s1 R1 f1 f2 f3 f4 hd' ⟨q1, q2⟩ => ?_)
    · refine wpi_of (pi_sq (pe_var hNi hv hd hcd)) ⟨_, h1, p, vs, rfl, .inl ⟨SqL.of h2, ?_⟩⟩
      refine kk (Itl X.K p) ds.length (fun j => ds.getD j .none) B H _ (Same.refl _) R2 ?_ ⟨rfl, rfl, rfl⟩
      intro j B2 H2 sb bh fh
      have hH : SqL X.K H2 p vs := SqL.of (fh p _ upd_same)
      have hlen := dpAll_len h5
      refine ⟨fun hj => ⟨vs, vs[j]'(by omega), hH, List.getElem?_eq_getElem (by omega)⟩, fun hj => ⟨vs, hH, by omega⟩, fun y H' hj hy => ?_⟩
      obtain ⟨rfl, hy⟩ := hy
      have e := hy vs hH
      obtain ⟨d, hd1, hd2⟩ := dpAll_get' h5 e
      refine ⟨B2, Grow.refl bh, ?_⟩
      show Dp X.K B2 y (ds.getD j .none)
      rw [List.getD_eq_getElem?_getD, hd1]
      exact dp_mono sb _ _ hd2
    · obtain ⟨e1, e2, e3⟩ := hx
      subst e1 e2 e3
      refine ⟨fun j acc Γ2 => Γ2 = Γ.set i .no ∧ acc = ((List.range j).filter q).map f, ⟨rfl, rfl⟩, fun j acc Γ2 hj ⟨e1, e2⟩ => ?_, fun acc Γ2 hz => hz⟩
      subst e1
      have hT : LcTurn X C tg elt ifs scope (own.map (·.2)) (ds.getD j .none) (Γ.set i .no) (fun Γ5 => Γ5 = Γ.set i .no ∧ acc = ((List.range (j + 1)).filter q).map f) fun y Γ5 => acc.length ≤ 1000000 ∧ Γ5 = Γ.set i .no ∧ acc ++ [y] = ((List.range (j + 1)).filter q).map f := ?_
      exact hT
      refine LcTurn.mono (ht j hj) (fun Γ5 ⟨e3, e4⟩ => ⟨e3, ?_⟩) fun y Γ5 ⟨e3, e4, e5⟩ => ⟨?_, e3, ?_⟩
      · rw [e2, List.range_succ, List.filter_append, List.map_append]
        simp [e4]
      · rw [e2, List.length_map]
        refine Nat.le_trans (List.length_filter_le _ _) ?_
        rw [List.length_range]
        omega
      · rw [e2, List.range_succ, List.filter_append, List.map_append]
        simp [e4, e5]
    · subst q1 q2
      have hpt : p ≠ t := fun z => by
        subst z
        rw [show (C.plus p (.lst vs)).F p = some (.lst vs) from upd_same] at f1
        cases f1
      have R3 := R1.del f1 f2 f4
      have R4 := R3.unlockL h3 hB0 (List.getElem?_set_self hi) h1 hf (dpAll_mono s1 _ _ h5)
      have eg : (Γ.set i .no).set i (.lst ds) = Γ := by
        rw [List.set_set]
        rw [List.getElem?_eq_getElem hi] at hg
        rw [← Option.some.inj hg]
        exact List.set_getElem_self hi
      rw [eg] at R4
      have := k t ws B' (delH H0 t) Γ _ s1 R4 delH_same hd' h
      rw [delH_upd f3] at this
      exact this⟩
end
end Gh
end

section
/-! Dicts over ghost states. -/
namespace Gh
open PySem L2
def dGet (kvs : List (Key × PyData)) (k : Key) : Option PyData := (kvs.find? fun kv => decide (kv.1 = k)).map (·.2)
def dPut (kvs : List (Key × PyData)) (k : Key) (v : PyData) : List (Key × PyData) :=
  if (kvs.any fun kv => decide (kv.1 = k)) = true then kvs.map (fun kv => if kv.1 = k then (kv.1, v) else kv) else kvs ++ [(k, v)]
def keyD : PyData → Option Key
  | .int i => some (.inl i)
  | .str x => some (.inr x)
  | _ => none
def kD : Key → PyData
  | .inl i => .int i
  | .inr x => .str x
section
variable {K : PySem.W.Frag} {B : Hp}
theorem dp_key {v : V} {d : PyData} {k : Key} (h : Dp K B v d) (e : keyD d = some k) : v = kV k := by
  cases h <;> simp [keyD] at e
  · subst e; rfl
  · subst e; rfl
theorem dp_ofKey (k : Key) : Dp K B (kV k) (kD k) := by
  cases k with
  | inl i => exact .int i
  | inr x => exact .str x
theorem kvRel_get {ks : List (Key × PyData)} {ws : List (Key × V)} (h : KvRel K B ks ws) {k : Key} {d : PyData} (e : dGet ks k = some d) : ∃ v, valV ws k = some v ∧ Dp K B v d := by
  induction h with
  | nil => cases e
  | @cons p q ks ws hpq _ ih =>
    unfold dGet at e
    rw [List.find?_cons] at e
    by_cases hk : p.1 = k
    · rw [decide_eq_true hk] at e
      have e := Option.some.inj e
      subst e
      exact ⟨q.2, valV_pos (by rw [← hpq.1]; exact hk), hpq.2⟩
    · rw [decide_eq_false hk] at e
      obtain ⟨v, h1, h2⟩ := ih e
      exact ⟨v, by rw [valV_neg (by rw [← hpq.1]; exact hk)]; exact h1, h2⟩
theorem kvRel_any {ks : List (Key × PyData)} {ws : List (Key × V)} (h : KvRel K B ks ws) (k : Key) : (ks.any fun kv => decide (kv.1 = k)) = (ws.any fun kv => decide (kv.1 = k)) := by
  induction h with
  | nil => rfl
  | @cons p q ks ws hpq _ ih => rw [List.any_cons, List.any_cons, ih, hpq.1]
theorem kvRel_map {ks : List (Key × PyData)} {ws : List (Key × V)} (h : KvRel K B ks ws) (k : Key) {v : V} {d : PyData} (hd : Dp K B v d) : KvRel K B (ks.map (fun kv => if kv.1 = k then (kv.1, d) else kv)) (ws.map (fun kv => if kv.1 = k then (kv.1, v) else kv)) := by
  induction h with
  | nil => exact .nil
  | @cons p q ks ws hpq _ ih =>
    rw [List.map_cons, List.map_cons]
    refine .cons ?_ ih
    by_cases hk : p.1 = k
    · rw [if_pos hk, if_pos (by rw [← hpq.1]; exact hk)]; exact ⟨hpq.1, hd⟩
    · rw [if_neg hk, if_neg (by rw [← hpq.1]; exact hk)]; exact hpq
theorem kvRel_app {ks ks' : List (Key × PyData)} {ws ws' : List (Key × V)} (h : KvRel K B ks ws) (h' : KvRel K B ks' ws') : KvRel K B (ks ++ ks') (ws ++ ws') := by
  induction h with
  | nil => exact h'
  | cons hpq _ ih => exact .cons hpq ih
theorem kvRel_put {ks : List (Key × PyData)} {ws : List (Key × V)} (h : KvRel K B ks ws) (k : Key) {v : V} {d : PyData} (hd : Dp K B v d) : KvRel K B (dPut ks k d) (putK ws k v) := by
  unfold dPut putK
  rw [kvRel_any h k]
  by_cases c : (ws.any fun kv => decide (kv.1 = k)) = true
  · rw [if_pos c, if_pos c]; exact kvRel_map h k hd
  · rw [if_neg c, if_neg c]; exact kvRel_app h (.cons ⟨rfl, hd⟩ .nil)
theorem kvRel_len {ks : List (Key × PyData)} {ws : List (Key × V)} (h : KvRel K B ks ws) : ks.length = ws.length := by
  induction h with
  | nil => rfl
  | cons _ _ ih => rw [List.length_cons, List.length_cons, ih]
theorem kvRel_at {ks : List (Key × PyData)} {ws : List (Key × V)} (h : KvRel K B ks ws) : ∀ {i : Nat} {k : Key} {v : V}, ws[i]? = some (k, v) → ∃ d, ks[i]? = some (k, d) ∧ Dp K B v d := by
  induction h with
  | nil => intro i k v e; cases e
  | @cons p q ks ws hpq _ ih =>
    intro i k v e
    cases i with
    | zero =>
      have e := Option.some.inj (by simpa using e : some q = some (k, v))
      subst e
      exact ⟨p.2, by rw [← show p.1 = k from hpq.1]; rfl, hpq.2⟩
    | succ i => exact ih (by simpa using e)
end
section
variable {X : Cx} {C : GC} {Γ : GS} {a b c e tg iter elt kx vx : Expr} {es ifs : List Expr} {pos p p2 spos : Pos} {Φ : PK} {N : GS → Prop} {R : PyData → GS → Prop} {scope : Scope}
theorem Rel.lck {K : PySem.W.Frag} {B H : Hp} {σ : L2.St} (R : Rel K C B H σ Γ) {i : Nat} {ds : List (Key × PyData)} (e : Γ[i]? = some (.lck ds)) : ∃ p ws ob, σ[i]? = some (some (.ref p)) ∧ H p = some (.frz ob (.dK ws)) ∧ KvRel K B ds ws := by
  obtain ⟨o, h1, p, ws, ob, h2, h3, h4⟩ := R.at_ i _ e
  exact ⟨p, ws, ob, by rw [h1, h2], R.fh _ _ h3, h4⟩
def isDct (kvs : List (Key × PyData)) (g : Option GE) : Prop := g = some (.dct kvs) ∨ g = some (.lck kvs)
/-- d[k], d a name's own dict -/
theorem xe_dget (i : Nat) {x : Str} (hu : X.A.units + 1 < cLine) (h : Xe X C b Γ fun y Γ2 => ∃ kvs k d, isDct kvs Γ2[i]? ∧ keyD y = some k ∧ dGet kvs k = some d ∧ Φ d Γ2) (hg : ∃ g : List (Key × PyData), isDct g Γ[i]?) (hN : X.N[i]? = some x := by rfl)
    (hv : Vis X.env.scope x := by first | exact Or.inl rfl | exact Or.inr (Or.inl rfl) | exact Or.inr (Or.inr rfl)) (hd : (x == ("__debug__" : Str)) = false := by decide) (hcd : (x == ("__classdict__" : Str)) = false := by decide) (hs : NoSl b := by intro _ _; rfl) : Xe X C (.Subscript (.Name x p) b pos) Γ Φ :=
  ⟨fun B H σ R Q k => by
    obtain ⟨g, hg⟩ := hg
    obtain ⟨q, hq⟩ : ∃ q, σ[i]? = some (some (.ref q)) := by
      rcases hg with hg | hg
      · obtain ⟨q, ws, h1, _⟩ := R.dct hg; exact ⟨q, h1⟩
      · obtain ⟨q, ws, ob, h1, _⟩ := R.lck hg; exact ⟨q, h1⟩
    refine wpe_of (pe_dget hu (pe_var hN hv hd hcd) pe_w hs) ⟨_, hq, h.run B H σ R _ fun v B1 H1 Γ1 y s1 R1 dy ⟨kvs, kk, d, h1, h2, h3, h4⟩ => ?_⟩
    have hy := dp_key dy h2
    subst hy
    rcases h1 with h1 | h1
    · obtain ⟨q', ws, e1, e2, e3, e4, e5⟩ := R1.dct h1
      rw [hq] at e1; cases e1
      obtain ⟨w, z1, z2⟩ := kvRel_get e5 h3
      exact ⟨q, w, rfl, .inl ⟨ws, kk, .inl e2, rfl, z1.symm⟩, k w B1 H1 Γ1 d s1 R1 z2 h4⟩
    · obtain ⟨q', ws, ob, e1, e2, e5⟩ := R1.lck h1
      rw [hq] at e1; cases e1
      obtain ⟨w, z1, z2⟩ := kvRel_get e5 h3
      exact ⟨q, w, rfl, .inl ⟨ws, kk, .inr ⟨ob, e2⟩, rfl, z1.symm⟩, k w B1 H1 Γ1 d s1 R1 z2 h4⟩⟩
/-- d[k] = v -/
theorem xs_dput (i : Nat) {x : Str} {pp : Pos} (hu : X.A.units + 1 < cLine) (h : Xe X C e Γ fun d Γ1 => (∃ g : List (Key × PyData), Γ1[i]? = some (.dct g)) ∧ Xe X C b Γ1 fun y Γ2 => ∃ kvs k, Γ2[i]? = some (.dct kvs) ∧ keyD y = some k ∧ kvs.length < 1000000 ∧ N (Γ2.set i (.dct (dPut kvs k d))))
    (hN : X.N[i]? = some x := by rfl) (hv : Vis X.env.scope x := by first | exact Or.inl rfl | exact Or.inr (Or.inl rfl) | exact Or.inr (Or.inr rfl)) (hd : (x == ("__debug__" : Str)) = false := by decide) (hcd : (x == ("__classdict__" : Str)) = false := by decide)
    (hs : swapsWith e (some (.Subscript (.Name x p) b pp)) pos.line X.env = pure false := by rfl) : Xs X C (.Assign [.Subscript (.Name x p) b pp] e pos) Γ N R :=
  ⟨fun B H σ Rl D k1 k2 => wps_of (ps_dput hu (pe_var hN hv hd hcd) pe_w pe_w hs) (h.run B H σ Rl _ fun v B1 H1 Γ1 d s1 R1 hdv ⟨⟨g, hg⟩, hx⟩ => by
    obtain ⟨q, ws0, hq, _⟩ := R1.dct hg
    refine ⟨_, hq, hx.run B1 H1 σ R1 _ fun y B2 H2 Γ2 dy s2 R2 hdy ⟨kvs, kk, h1, h2, h3, h4⟩ => ?_⟩
    have hy := dp_key hdy h2
    subst hy
    obtain ⟨q', ws, e1, e2, e3, e4, e5⟩ := R2.dct h1
    rw [hq] at e1; cases e1
    refine ⟨q, _, rfl, DPut.k e2 (by rw [← kvRel_len e5, PySem.sizeLine_eq]; omega), ?_⟩
    exact k1 B2 _ σ _ (s1.trans s2) (R2.putD h1 hq e3 e4 (kvRel_put e5 kk (dp_mono s2 _ _ hdv))) h4)⟩
/-- d[k] += v, ints -/
theorem xs_daug (i : Nat) {x : Str} {pp : Pos} (hu : X.A.units + 1 < cLine) (hg : ∃ g : List (Key × PyData), Γ[i]? = some (.dct g)) (h : Xe X C b Γ fun y Γ2 => ∃ kvs k n, Γ2[i]? = some (.dct kvs) ∧ keyD y = some k ∧ dGet kvs k = some (.int n) ∧ Xe X C e Γ2 fun z Γ3 => ∃ m kvs', z = .int m ∧ Γ3[i]? = some (.dct kvs') ∧ kvs'.length < 1000000 ∧ N (Γ3.set i (.dct (dPut kvs' k (.int (n + m))))))
    (hN : X.N[i]? = some x := by rfl) (hv : Vis X.env.scope x := by first | exact Or.inl rfl | exact Or.inr (Or.inl rfl) | exact Or.inr (Or.inr rfl)) (hd : (x == ("__debug__" : Str)) = false := by decide) (hcd : (x == ("__classdict__" : Str)) = false := by decide)
    (ha : ∀ ov iv new, augStore b ov iv new = (do holding [new, ov, iv] (setItem ov iv new); release [new, ov, iv] []; pure .next) := by intro _ _ _; rfl) : Xs X C (.AugAssign (.Subscript (.Name x p) b pp) .Add e pos) Γ N R :=
  ⟨fun B H σ Rl D k1 k2 => by
    obtain ⟨g, hg⟩ := hg
    obtain ⟨q, ws0, hq, _⟩ := Rl.dct hg
    refine wps_of (ps_daug hu (pe_var hN hv hd hcd) pe_w pe_w in_add ha) ⟨_, hq, h.run B H σ Rl _ fun y B1 H1 Γ1 d s1 R1 hdy ⟨kvs, kk, n, h1, h2, h3, hx⟩ => ?_⟩
    have hy := dp_key hdy h2
    subst hy
    obtain ⟨q', ws, e1, e2, e3, e4, e5⟩ := R1.dct h1
    rw [hq] at e1; cases e1
    obtain ⟨w, z1, z2⟩ := kvRel_get e5 h3
    cases dp_int z2
    refine ⟨q, _, rfl, .inl ⟨ws, kk, .inl e2, rfl, z1.symm⟩, hx.run B1 H1 σ R1 _ fun z B2 H2 Γ2 dz s2 R2 hdz ⟨m, kvs', h4, h5, h6, h7⟩ => ?_⟩
    subst h4
    cases dp_int hdz
    refine ⟨n, m, rfl, rfl, ?_⟩
    obtain ⟨q', ws, e1, e2, e3, e4, e5⟩ := R2.dct h5
    rw [hq] at e1; cases e1
    refine ⟨_, DPut.k e2 (by rw [← kvRel_len e5, PySem.sizeLine_eq]; omega), ?_⟩
    exact k1 B2 _ σ _ (s1.trans s2) (R2.putD h5 hq e3 e4 (kvRel_put e5 kk (.int _))) h7⟩
theorem xd_new {Ψ : List (Key × PyData) → GS → Prop} (h : Ψ [] Γ) : Xd X C (.Dict [] [] pos) Γ Ψ :=
  ⟨fun B H σ R Q k => wpe_of pe_dnewK fun q hq => k q [] B H Γ [] (Same.refl _) R hq .nil h⟩
/-- x = y, y a name's own dict: x's from now on -/
theorem xs_mvD (i j : Nat) {x y : Str} {px py : Pos} {kvs : List (Key × PyData)} (hg : Γ[j]? = some (.dct kvs)) (hi : i < Γ.length) (hf : ∀ q ∈ C.ps, q.1 ≠ i) (hfj : ∀ q ∈ C.ps, q.1 ≠ j) (h : N ((Γ.set j .no).set i (.dct kvs))) (hN : X.N.Nodup) (hiN : X.N[i]? = some x := by rfl) (hjN : X.N[j]? = some y := by rfl) (hx : Loc X.env.scope x := by first | exact Or.inl rfl | exact Or.inr rfl)
    (hv : Vis X.env.scope y := by first | exact Or.inl rfl | exact Or.inr (Or.inl rfl) | exact Or.inr (Or.inr rfl)) (hd : (y == ("__debug__" : Str)) = false := by decide) (hcd : (y == ("__classdict__" : Str)) = false := by decide)
    (hs : swapsWith (.Name y py) (some (.Name x px)) pos.line X.env = pure false := by rfl) (hff : X.fn x = true ∨ X.env.scope.names.lookup x = some .local := by first | exact .inl rfl | exact .inr rfl | assumption) : Xs X C (.Assign [.Name x px] (.Name y py) pos) Γ N R :=
  ⟨fun B H σ Rl D k1 k2 => by
    obtain ⟨q, ws, h1, h2, h3, h4, h5⟩ := Rl.dct hg
    refine wps_of (ps_set hN hiN hx (pe_var hjN hv hd hcd) hs hff) ⟨_, h1, k1 B H _ _ (Same.refl _) ((Rl.weak hfj).set (g := .dct kvs) (by rw [List.length_set]; exact hi) (.inr hf) ⟨q, ws, rfl, h2, h3, h4, h5⟩ fun _ m gm em ejm mm z => ?_) h⟩
    rcases get_set ejm with ⟨rfl, rfl⟩ | ⟨hj, ejm⟩
    · cases mm
    · exact hj (Rl.dis m j gm _ q ejm hg mm rfl z h1)⟩

/-! ### {k: v for tg in iter} -/
def DcTurn (X : Cx) (C : GC) (tg kx vx : Expr) (scope : Scope) (own : List Nat) (d : PyData) (Γ2 : GS) (kk : Key) (vv : PyData) : Prop :=
  NoMu Γ2 own ∧ ∀ s H Ca cl fp C', C'.ps = C.ps → Xg (blkX X s H scope Ca cl fp) C' tg own d (wipeG Γ2 own) fun Γ3 => ∀ s H Ca cl fp, Xe (blkX X s H scope Ca cl fp) C' kx Γ3 fun y Γ4 =>
    keyD y = some kk ∧ ∀ s H Ca cl fp, Xe (blkX X s H scope Ca cl fp) C' vx Γ4 fun z Γ5 => z = vv ∧ unw Γ2 Γ5 own = Γ2
def dcF (kf : Nat → Key) (vf : Nat → PyData) (n : Nat) : List (Key × PyData) := (List.range n).foldl (fun kvs i => dPut kvs (kf i) (vf i)) []
theorem dPut_len (kvs : List (Key × PyData)) (k : Key) (v : PyData) : (dPut kvs k v).length ≤ kvs.length + 1 := by
  unfold dPut
  split <;> simp
theorem dcF_succ (kf : Nat → Key) (vf : Nat → PyData) (n : Nat) : dcF kf vf (n + 1) = dPut (dcF kf vf n) (kf n) (vf n) := by
  unfold dcF
  rw [List.range_succ, List.foldl_append]
  rfl
theorem dcF_len (kf : Nat → Key) (vf : Nat → PyData) (n : Nat) : (dcF kf vf n).length ≤ n := by
  induction n with
  | zero => exact Nat.le_refl _
  | succ n ih =>
    rw [dcF_succ]
    have := dPut_len (dcF kf vf n) (kf n) (vf n)
    omega
theorem dc_read {own : List Nat} {Ψ : List (Key × PyData) → GS → Prop} {Q : VK} {B H : Hp} {σ : L2.St} (hn : ∀ q ∈ C.ps, q.1 ∉ own) (Rl : Rel X.K C B H σ Γ)
    (h : Xi X C tg iter Γ fun n item Γ1 => n ≤ 1000000 ∧ ∃ (kf : Nat → Key) (vf : Nat → PyData), (∀ i, i < n → DcTurn X C tg kx vx scope own (item i) Γ1 (kf i) (vf i)) ∧ Ψ (dcF kf vf n) Γ1)
    (k : ∀ t ws B' H0 Γ' ks, Same B B' → Rel X.K C B' H0 σ Γ' → C.F t = none → B' t = none → H0 t = some (.dK ws) → (∀ (i : Nat) (g : GE), Γ'[i]? = some g → g.mu = true → σ[i]? ≠ some (some (.ref t))) → KvRel X.K B' ks ws → Ψ ks Γ' → Q (.ref t) H0) :
    tDc (wpi X tg iter) (fun v σ' H' Q' => ∀ s H Ca cl fp, wpg (blkX X s H scope Ca cl fp) tg v σ' H' Q') tYes (fun σ' H' Q' => ∀ s H Ca cl fp, wpe (blkX X s H scope Ca cl fp) kx σ' H' Q') (fun σ' H' Q' => ∀ s H Ca cl fp, wpe (blkX X s H scope Ca cl fp) vx σ' H' Q') own σ H Q := by
  refine h.run B H σ Rl _ fun J n item B1 H1 Γ1 s1 R1 okI ⟨hle, kf, vf, ht, hΨ⟩ => fun Da hD => ?_
  have Fn := R1.fnone hD
  have Bn := R1.bnone hD
  have B0n : C.B0 Da = none := R1.b0.free Bn
  refine ⟨fun i m H2 => m = n - i ∧ i ≤ n ∧ ∃ B2 ws, Same B1 B2 ∧ H2 Da = some (.dK ws) ∧ Rel X.K (C.plus Da (.dK ws)) B2 H2 σ Γ1 ∧ KvRel X.K B2 (dcF kf vf i) ws,
    ⟨n, by omega, Nat.zero_le _, B1, [], Same.refl _, upd_same, R1.plus hD, .nil⟩, ?_⟩
  rintro i m H2 ⟨rfl, hile, B2, ws, s2, hDa, R2, hacc⟩
  have B2n : B2 Da = none := R2.kept B0n
  obtain ⟨o1, o2, o3⟩ := okI i B2 H2 s2 R2.bh (R2.unplus Fn).fh
  by_cases hlt : i < n
  · refine .inr ⟨o1 hlt, fun H' => ∃ B' ws', Same B2 B' ∧ H' Da = some (.dK ws') ∧ Rel X.K (C.plus Da (.dK ws')) B' H' σ Γ1 ∧ KvRel X.K B' (dcF kf vf (i + 1)) ws', fun H' ⟨B', ws', s', e', R', d'⟩ => ⟨n - (i + 1), by omega, rfl, hlt, B', ws', s2.trans s', e', R', d'⟩, fun x H3 hy => ?_⟩
    obtain ⟨B3, g3, hd⟩ := o3 x H3 hlt hy
    have R3 : Rel X.K (C.plus Da (.dK ws)) B3 H3 σ Γ1 := g3.rel R2
    obtain ⟨hmu, hturn⟩ := ht i hlt
    have R3w := R3.wiped (vs := own) hn
    intro ss HH Ca cl fp
    refine (hturn ss HH Ca cl fp (C.plus Da (.dK ws)) rfl).run B3 H3 _ x R3w hd _ fun σ4 Γ4 R4 k4 l4 hT => ?_
    have ho : ∀ j, j ∉ own → σ4[j]? = σ[j]? := fun j hj => by rw [k4 j hj, wipe_out' hj]
    have hl : σ4.length = σ.length := by rw [l4, wipe_length]
    refine ⟨wipe_eq hl ho, ?_⟩
    unfold tYes
    dsimp only
    rw [if_pos rfl]
    intro s' H' Ca' cl' fp'
    refine (hT s' H' Ca' cl' fp').run B3 H3 σ4 R4 _ fun y B5 H5 Γ5 dy s5 R5 hdy ⟨hk, hv⟩ => fun s'' H'' Ca'' cl'' fp'' => ?_
    refine (hv s'' H'' Ca'' cl'' fp'').run B5 H5 σ4 R5 _ fun v B6 H6 Γ6 d s6 R6 hvd ⟨ev, eu⟩ => ?_
    subst ev
    have hyk := dp_key hdy hk
    subst hyk
    have R7 := R3.unwiped R6 (s5.trans s6) ho hl hmu hn
    rw [eu] at R7
    have R8 : Rel X.K C B6 H6 σ Γ1 := R7.unplus Fn
    have B6n : B6 Da = none := R7.kept B0n
    have hm7 : ∀ (j : Nat) (g : GE), Γ1[j]? = some g → g.mu = true → σ[j]? ≠ some (some (.ref Da)) := fun j g ej mj z => by
      obtain ⟨o, z1, z2⟩ := R7.at_ j g ej
      obtain ⟨q, u, y1, y2, y3, y4⟩ := z2.mut mj
      rw [z1, y1] at z
      cases z
      rw [show (C.plus Da (.dK ws)).F Da = some (.dK ws) from upd_same] at y3
      cases y3
    have hlen : ws.length ≤ i := by rw [← kvRel_len hacc]; exact dcF_len kf vf i
    refine ⟨ws, kf i, rfl, R6.keeps, by rw [PySem.sizeLine_eq]; omega, B6, _, (g3.b.trans s5).trans s6, upd_same, ?_, ?_⟩
    · have R9 := R8.other Fn B6n hm7 (o := .dK (putK ws (kf i) v))
      exact R9.plusAt upd_same Fn B6n hm7
    · rw [dcF_succ]
      exact kvRel_put (kvRel_mono ((g3.b.trans s5).trans s6) hacc) (kf i) hvd
  · have e : i = n := by omega
    subst e
    have R5 : Rel X.K C B2 H2 σ Γ1 := R2.unplus Fn
    have hm7 : ∀ (j : Nat) (g : GE), Γ1[j]? = some g → g.mu = true → σ[j]? ≠ some (some (.ref Da)) := fun j g ej mj z => by
      obtain ⟨o, z1, z2⟩ := R2.at_ j g ej
      obtain ⟨q, u, y1, y2, y3, y4⟩ := z2.mut mj
      rw [z1, y1] at z
      cases z
      rw [show (C.plus Da (.dK ws)).F Da = some (.dK ws) from upd_same] at y3
      cases y3
    exact .inl ⟨o2 (Nat.le_refl _), k Da ws B2 H2 Γ1 _ (s1.trans s2) R5 Fn B2n hDa hm7 hacc hΨ⟩
theorem xd_dc {Ψ : List (Key × PyData) → GS → Prop} (own : List (Str × Nat)) (hc : X.calm = true) (hN : X.N.Nodup) (ok : BlkOk X.N X.env.scope scope own) (hn : ∀ q ∈ C.ps, q.1 ∉ own.map (·.2))
    (h : Xi X C tg iter Γ fun n item Γ1 => n ≤ 1000000 ∧ ∃ (kf : Nat → Key) (vf : Nat → PyData), (∀ i, i < n → DcTurn X C tg kx vx scope (own.map (·.2)) (item i) Γ1 (kf i) (vf i)) ∧ Ψ (dcF kf vf n) Γ1)
    (hs : ∀ x, foldedSetIterable iter X.env x = pure x := by intro _; rfl) : Xd X C (.DictComp kx vx [⟨tg, iter, [], 0⟩] scope pos) Γ Ψ :=
  ⟨fun B H σ Rl Q kont => wpe_of (pe_dc (own := own) hc hN pi_w ok (fun s H Ca cl fp => ⟨fun pins s2 σ2 H2 v u Q2 I r (h2 : ∀ s H Ca cl fp, wpg (blkX X s H scope Ca cl fp) tg v σ2 H2 Q2) => h2 s H Ca cl fp pins s2 u I r⟩) (fun s H Ca cl fp => pts_nil) (fun s H Ca cl fp => ⟨fun pins s2 σ2 H2 Q2 I (h2 : ∀ s H Ca cl fp, wpe (blkX X s H scope Ca cl fp) kx σ2 H2 Q2) => h2 s H Ca cl fp pins s2 I⟩) (fun s H Ca cl fp => ⟨fun pins s2 σ2 H2 Q2 I (h2 : ∀ s H Ca cl fp, wpe (blkX X s H scope Ca cl fp) vx σ2 H2 Q2) => h2 s H Ca cl fp pins s2 I⟩) hs)
    (dc_read hn Rl h fun t ws B' H0 Γ' ks s1 R1 f1 f2 f3 f4 hd q => by
      have := kont t ws B' (delH H0 t) Γ' ks s1 (R1.del f1 f2 f4) delH_same hd q
      rw [delH_upd f3] at this
      exact this)⟩
theorem ps_setDc {i : Nat} {y : Str} {py : Pos} {own : List (Str × Nat)} {wi : TI} {g : TG} {tt : TT} {tk tv : TE} (hc : X.calm = true) (hN : X.N.Nodup) (hy : X.N[i]? = some y) (hyl : X.env.scope.names.lookup y = some .local)
    (hsw : swapsWith (.DictComp kx vx [⟨tg, iter, ifs, 0⟩] scope pos) (some (.Name y py)) spos.line X.env = pure true) (hi : PI X tg iter wi) (ok : BlkOk X.N X.env.scope scope own)
    (hg : ∀ (s : Shared) (H : Hp) (C : Addr) (cl : List (Str × Addr)) (fp : List Addr), PG (X.blk s H scope (compEnvC scope cl C X.env) fp) tg g) (ht : ∀ (s : Shared) (H : Hp) (C : Addr) (cl : List (Str × Addr)) (fp : List Addr), PTs (X.blk s H scope (compEnvC scope cl C X.env) fp) ifs tt)
    (hk : ∀ (s : Shared) (H : Hp) (C : Addr) (cl : List (Str × Addr)) (fp : List Addr), PE (X.blk s H scope (compEnvC scope cl C X.env) fp) kx tk)
    (he : ∀ (s : Shared) (H : Hp) (C : Addr) (cl : List (Str × Addr)) (fp : List Addr), PE (X.blk s H scope (compEnvC scope cl C X.env) fp) vx tv) (hs : ∀ x, foldedSetIterable iter X.env x = pure x := by intro _; rfl) :
    PS X (.Assign [.Name y py] (.DictComp kx vx [⟨tg, iter, ifs, 0⟩] scope pos) spos) (tAsg (tDc wi g tt tk tv (own.map (·.2))) (gName i)) := by
  refine ⟨fun pins s σ H D I h => ?_⟩
  rw [exec_Assign_Name_used _ _ _ _ hsw]
  refine wpAny_bind (wpAny_standAt (wpAny_bind ?_))
  show wpAny _ X.A (do let _ ← comprehension (.DictComp kx vx [⟨tg, iter, ifs, 0⟩] scope pos) scope X.env (firstIterPos [⟨tg, iter, ifs, 0⟩] pos) newDict false (eval iter X.env) (some (assign (.Name y py) X.env))) _ _ s
  have h : tDc wi g tt tk tv (own.map (·.2)) σ H (fun x H1 => gName i x σ H1 D.nx) := h
  refine wpAny_bind (thn (dc_core (Qf := fun _ s' => SP X pins D .next s') hc hN I hi ok hg ht hk he hs h fun L C s' m H' I' q hn f => ?_) fun _ s' hq => wpAny_pure (wpAny_pure hq))
  show wpAny _ _ (assign (.Name y py) X.env (.ref L)) _ _ _
  refine wpAny_assign_Name (store_ok2 (v := V.ref L) I' hN hy (.inl hyl) rfl (fun s2 I2 ⟨a, sb, ha⟩ => ?_) (.inr hyl))
  obtain ⟨f0, f1, f2, f3, f4, f5⟩ := f
  have haC : C ≠ a := by
    rcases ha with z | z
    · rw [z]; exact f1
    · exact fun e => f4 y a z e.symm
  refine ⟨m, hn.sameBut sb haC, fun h3 sb3 => ?_⟩
  exact ⟨_, H', I2.turned (t' := s2.toks) (fun b o hb e => (sb3.2 b hb).trans e) f0 f1 f3 f4 f5, q⟩
theorem sw_trueD {elt kx : Expr} {gs : List Comprehension} {scope : Scope} {pos py : Pos} {y : Str} {l : Nat} {env : Env} (hk : env.scope.kind = .function) (hy : env.scope.names.lookup y = some .local) (hl : (py.line == pos.line) = true)
    (ha : (scope.names.any fun (n, k) => n == y && (k == .local || k == .cell)) = false) : swapsWith (.DictComp kx elt gs scope pos) (some (.Name y py)) l env = pure true := by
  have ky : env.kindOf y = some .local := hy
  have hb : env.blockKind = .function := by unfold Env.blockKind; rw [hk]; rfl
  unfold swapsWith
  simp only [hb, ky, ha, Expr.pos, hl]
  rfl
/-- name = {k: v for ..} -/
theorem xs_asgDc (i : Nat) (own : List (Str × Nat)) {y : Str} {py : Pos} (hc : X.calm = true) (hN : X.N.Nodup) (ok : BlkOk X.N X.env.scope scope own) (hn : ∀ q ∈ C.ps, q.1 ∉ own.map (·.2))
    (h : Xi X C tg iter Γ fun n item Γ1 => n ≤ 1000000 ∧ ∃ (kf : Nat → Key) (vf : Nat → PyData), (∀ i, i < n → DcTurn X C tg kx vx scope (own.map (·.2)) (item i) Γ1 (kf i) (vf i)) ∧ i < Γ1.length ∧ Free C Γ1 i ∧ N (Γ1.set i (.dct (dcF kf vf n))))
    (hsw : swapsWith (.DictComp kx vx [⟨tg, iter, [], 0⟩] scope pos) (some (.Name y py)) spos.line X.env = pure true) (hy : X.N[i]? = some y := by rfl) (hyl : X.env.scope.names.lookup y = some .local := by rfl)
    (hs : ∀ x, foldedSetIterable iter X.env x = pure x := by intro _; rfl) : Xs X C (.Assign [.Name y py] (.DictComp kx vx [⟨tg, iter, [], 0⟩] scope pos) spos) Γ N R :=
  ⟨fun B H σ Rl D k1 k2 => wps_of (ps_setDc (own := own) hc hN hy hyl hsw pi_w ok (fun s H Ca cl fp => ⟨fun pins s2 σ2 H2 v u Q2 I r (h2 : ∀ s H Ca cl fp, wpg (blkX X s H scope Ca cl fp) tg v σ2 H2 Q2) => h2 s H Ca cl fp pins s2 u I r⟩) (fun s H Ca cl fp => pts_nil) (fun s H Ca cl fp => ⟨fun pins s2 σ2 H2 Q2 I (h2 : ∀ s H Ca cl fp, wpe (blkX X s H scope Ca cl fp) kx σ2 H2 Q2) => h2 s H Ca cl fp pins s2 I⟩) (fun s H Ca cl fp => ⟨fun pins s2 σ2 H2 Q2 I (h2 : ∀ s H Ca cl fp, wpe (blkX X s H scope Ca cl fp) vx σ2 H2 Q2) => h2 s H Ca cl fp pins s2 I⟩) hs)
    (dc_read (Ψ := fun ks Γ1 => i < Γ1.length ∧ Free C Γ1 i ∧ N (Γ1.set i (.dct ks))) hn Rl h fun t ws B' H0 Γ' ks s1 R1 f1 f2 f3 f4 hd ⟨q1, q2, q3⟩ => by
      refine k1 B' _ _ _ s1 ?_ q3
      exact R1.set q1 q2 ⟨t, ws, rfl, f3, f1, f2, hd⟩ fun _ j gj _ ej mj z => f4 j gj ej mj z)⟩
/-! ### [.. for k in d ..], d a name's own dict -/
theorem Rel.lockD {K : PySem.W.Frag} {B H : Hp} {σ : L2.St} (R : Rel K C B H σ Γ) {i : Nat} {p : Addr} {kvs : List (Key × PyData)} {ws : List (Key × V)} (e : Γ[i]? = some (.dct kvs)) (hf : ∀ q ∈ C.ps, q.1 ≠ i) (h1 : σ[i]? = some (some (.ref p))) (h2 : H p = some (.dK ws)) (h3 : C.F p = none) (h4 : B p = none) (h5 : KvRel K B kvs ws) (od : Obj) :
    Rel K (C.plus p (.frz od (.dK ws))) B (upd H p (.frz od (.dK ws))) σ (Γ.set i (.lck kvs)) where
  fh := same_upd3 R.fh
  b0 := R.b0
  bh := same_upd2 R.bh h4
  fr := fun b u x n => by
    by_cases hb : b = p
    · rw [hb]; exact h4
    · rw [show (C.plus p (.frz od (.dK ws))).F b = C.F b from upd_ne hb] at x
      exact R.fr b u x n
  len := by rw [List.length_set]; exact R.len
  at_ := fun j gj ej => by
    rcases get_set ej with ⟨rfl, rfl⟩ | ⟨hj, ej⟩
    · exact ⟨_, h1, p, ws, od, rfl, upd_same, h5⟩
    · obtain ⟨o, z1, z2⟩ := R.at_ j gj ej
      refine ⟨o, z1, ?_⟩
      cases gj with
      | no => trivial
      | val d => exact z2
      | lst ds =>
        obtain ⟨q, vs, e1, e2, e3, e4, e5⟩ := z2
        have hq : q ≠ p := fun z => by subst z; exact hj (R.dis j i _ _ q ej e rfl rfl (by rw [z1, e1]) h1)
        exact ⟨q, vs, e1, by rw [upd_ne hq]; exact e2, by rw [show (C.plus p (.frz od (.dK ws))).F q = C.F q from upd_ne hq]; exact e3, e4, e5⟩
      | dct ds =>
        obtain ⟨q, vs, e1, e2, e3, e4, e5⟩ := z2
        have hq : q ≠ p := fun z => by subst z; exact hj (R.dis j i _ _ q ej e rfl rfl (by rw [z1, e1]) h1)
        exact ⟨q, vs, e1, by rw [upd_ne hq]; exact e2, by rw [show (C.plus p (.frz od (.dK ws))).F q = C.F q from upd_ne hq]; exact e3, e4, e5⟩
      | lck ds =>
        obtain ⟨q, vs, ob, e1, e2, e3⟩ := z2
        have hq : q ≠ p := ne_of_none e2 h3
        exact ⟨q, vs, ob, e1, by rw [show (C.plus p (.frz od (.dK ws))).F q = C.F q from upd_ne hq]; exact e2, e3⟩
  dis := fun j k gj gk r ej ek mj mk sj sk => by
    rcases get_set ej with ⟨rfl, rfl⟩ | ⟨hj, ej⟩
    · cases mj
    · rcases get_set ek with ⟨rfl, rfl⟩ | ⟨hk, ek⟩
      · cases mk
      · exact R.dis j k gj gk r ej ek mj mk sj sk
  pin := fun q hq => by
    obtain ⟨z1, g, z2, z3⟩ := R.pin q hq
    exact ⟨z1, g, by rw [List.getElem?_set_ne (fun z => hf q hq z.symm)]; exact z2, z3⟩
theorem Rel.unlockD {K : PySem.W.Frag} {B B0 H H0 : Hp} {σ : L2.St} {p : Addr} {od : Obj} {kvs : List (Key × PyData)} {ws : List (Key × V)} {i : Nat} (R0 : Rel K C B0 H0 σ Γ) (e : Γ[i]? = some (.dct kvs)) (h1 : σ[i]? = some (some (.ref p))) (h3 : C.F p = none) (hB : C.B0 p = none)
    (R : Rel K (C.plus p (.frz od (.dK ws))) B H σ (Γ.set i (.lck kvs))) (hd : KvRel K B kvs ws) : Rel K C B (upd H p (.dK ws)) σ Γ := by
  have hBp : B p = none := R.fr p _ upd_same hB
  have hi : i < Γ.length := (List.getElem?_eq_some_iff.mp e).1
  refine ⟨fun b u x => ?_, R.b0, same_upd2 R.bh hBp, fun b u x n => R.fr b u (by rw [show (C.plus p (.frz od (.dK ws))).F b = C.F b from upd_ne (ne_of_none x h3)]; exact x) n, R0.len, fun j gj ej => ?_, R0.dis, R0.pin⟩
  · have hb := ne_of_none x h3
    rw [upd_ne hb]
    exact R.fh b u (by rw [show (C.plus p (.frz od (.dK ws))).F b = C.F b from upd_ne hb]; exact x)
  · by_cases hj : j = i
    · subst hj
      rw [e] at ej; cases ej
      exact ⟨_, h1, p, ws, rfl, upd_same, h3, hBp, hd⟩
    · obtain ⟨o0, y1, y2⟩ := R0.at_ j gj ej
      obtain ⟨o, z1, z2⟩ := R.at_ j gj (by rw [List.getElem?_set_ne (fun z => hj z.symm)]; exact ej)
      refine ⟨o, z1, ?_⟩
      cases gj with
      | no => trivial
      | val d => exact z2
      | lst ds =>
        obtain ⟨q, vs, e1, e2, e3, e4, e5⟩ := z2
        have hq : q ≠ p := fun z => by subst z; rw [show (C.plus q (.frz od (.dK ws))).F q = some (.frz od (.dK ws)) from upd_same] at e3; cases e3
        exact ⟨q, vs, e1, by rw [upd_ne hq]; exact e2, by rw [← show (C.plus p (.frz od (.dK ws))).F q = C.F q from upd_ne hq]; exact e3, e4, e5⟩
      | dct ds =>
        obtain ⟨q, vs, e1, e2, e3, e4, e5⟩ := z2
        have hq : q ≠ p := fun z => by subst z; rw [show (C.plus q (.frz od (.dK ws))).F q = some (.frz od (.dK ws)) from upd_same] at e3; cases e3
        exact ⟨q, vs, e1, by rw [upd_ne hq]; exact e2, by rw [← show (C.plus p (.frz od (.dK ws))).F q = C.F q from upd_ne hq]; exact e3, e4, e5⟩
      | lck ds =>
        obtain ⟨q, vs, ob, e1, e2, e3⟩ := z2
        obtain ⟨q', vs', ob', e1', e2', e3'⟩ := y2
        rw [z1] at y1
        cases y1
        rw [e1'] at e1
        cases e1
        have hq : q ≠ p := ne_of_none e2' h3
        exact ⟨q, vs, ob, e1', by rw [← show (C.plus p (.frz od (.dK ws))).F q = C.F q from upd_ne hq]; exact e2, e3⟩
theorem upd_swap {H : Hp} {a b : Addr} {o u : HO} (h : a ≠ b) : upd (upd H a o) b u = upd (upd H b u) a o := funext fun c => by
  by_cases h1 : c = a
  · subst h1; rw [upd_ne h, upd_same, upd_same]
  · by_cases h2 : c = b
    · subst h2; rw [upd_same, upd_ne h1, upd_same]
    · rw [upd_ne h2, upd_ne h1, upd_ne h1, upd_ne h2]
theorem xm_lcKeys {Ψ : List PyData → GS → Prop} (i : Nat) {x : Str} {pp : Pos} {kvs : List (Key × PyData)} (own : List (Str × Nat)) (hc : X.calm = true) (hN : X.N.Nodup) (ok : BlkOk X.N X.env.scope scope own) (hn : ∀ q ∈ C.ps, q.1 ∉ own.map (·.2)) (hg : Γ[i]? = some (.dct kvs)) (hf : ∀ q ∈ C.ps, q.1 ≠ i) (hl : kvs.length ≤ 1000000)
    (q : Nat → Bool) (f : Nat → PyData) (ht : ∀ j (hj : j < kvs.length), LcTurn X C tg elt ifs scope (own.map (·.2)) (kD kvs[j].1) (Γ.set i (.lck kvs)) (fun Γ' => Γ' = Γ.set i (.lck kvs) ∧ q j = false) fun y Γ' => Γ' = Γ.set i (.lck kvs) ∧ q j = true ∧ y = f j)
    (h : Ψ (((List.range kvs.length).filter q).map f) Γ) (hNi : X.N[i]? = some x := by rfl)
    (hv : Vis X.env.scope x := by first | exact Or.inl rfl | exact Or.inr (Or.inl rfl) | exact Or.inr (Or.inr rfl)) (hd : (x == ("__debug__" : Str)) = false := by decide) (hcd : (x == ("__classdict__" : Str)) = false := by decide)
    (hs : ∀ y, foldedSetIterable (.Name x pp) X.env y = pure y := by intro _; rfl) : Xm X C (.ListComp elt [⟨tg, .Name x pp, ifs, 0⟩] scope pos) Γ Ψ :=
  ⟨fun B H σ Rl Q k => by
    obtain ⟨p, ws, h1, h2, h3, h4, h5⟩ := Rl.dct hg
    have hB0 : C.B0 p = none := Rl.b0.free h4
    have hi : i < Γ.length := (List.getElem?_eq_some_iff.mp hg).1
    refine wpe_of (pe_lock (pe_lc (own := own) hc hN pi_w ok (fun s H Ca cl fp => ⟨fun pins s2 σ2 H2 v u Q2 I r (h2 : ∀ s H Ca cl fp, wpg (blkX X s H scope Ca cl fp) tg v σ2 H2 Q2) => h2 s H Ca cl fp pins s2 u I r⟩) (fun s H Ca cl fp => ⟨fun pins s2 σ2 H2 Q2 I (h2 : ∀ s H Ca cl fp, wpts (blkX X s H scope Ca cl fp) ifs σ2 H2 Q2) => h2 s H Ca cl fp pins s2 I⟩) (fun s H Ca cl fp => ⟨fun pins s2 σ2 H2 Q2 I (h2 : ∀ s H Ca cl fp, wpe (blkX X s H scope Ca cl fp) elt σ2 H2 Q2) => h2 s H Ca cl fp pins s2 I⟩) hs)) ⟨p, .dK ws, h2, trivial, fun od => ?_⟩
    have R2 := Rl.lockD hg hf h1 h2 h3 h4 h5 od
    refine lc_read0 (C := C.plus p (.frz od (.dK ws))) (Γ := Γ.set i (.lck kvs)) (Pn := fun n item Γ1 => n = kvs.length ∧ (∀ j (hj : j < kvs.length), item j = kD kvs[j].1) ∧ Γ1 = Γ.set i (.lck kvs)) (Ψ := fun acc Γ2 => Γ2 = Γ.set i (.lck kvs) ∧ acc = ((List.range kvs.length).filter q).map f) (own.map fun (x : Str × Nat) => x.2) hn R2 (fun Rr kk => ?_) (fun n item Γ1 hx => ?_) fun t vs B' H0 Γ' es s1 R1 f1 f2 f3 f4 hd' ⟨q1, q2⟩ => ?_
    · refine wpi_of (pi_keys (pe_var hNi hv hd hcd)) ⟨_, h1, p, od, rfl, .inl ⟨ws, upd_same, ?_⟩⟩
      refine kk (Itk p od ws) kvs.length (fun j => (kvs[j]?.map fun z => kD z.1).getD .none) B _ _ (Same.refl _) R2 ?_ ⟨rfl, fun j hj => by rw [List.getElem?_eq_getElem hj]; rfl, rfl⟩
      intro j B2 H2 sb bh fh
      have hp2 : H2 p = some (.frz od (.dK ws)) := fh p _ upd_same
      have hlen := kvRel_len h5
      refine ⟨fun hj => ⟨hp2, by omega⟩, fun hj => ⟨hp2, by omega⟩, fun y H' hj hy => ?_⟩
      obtain ⟨rfl, kk2, vv, e2, rfl⟩ := hy
      obtain ⟨d, e3, e4⟩ := kvRel_at h5 e2
      refine ⟨B2, Grow.refl bh, ?_⟩
      show Dp X.K B2 (kV kk2) ((kvs[j]?.map fun z => kD z.1).getD .none)
      rw [e3]
      exact dp_ofKey kk2
    · obtain ⟨e1, e2, e3⟩ := hx
      subst e1 e3
      refine ⟨fun j acc Γ2 => Γ2 = Γ.set i (.lck kvs) ∧ acc = ((List.range j).filter q).map f, ⟨rfl, rfl⟩, fun j acc Γ2 hj ⟨e4, e5⟩ => ?_, fun acc Γ2 hz => hz⟩
      subst e4
      rw [e2 j hj]
      have hT : LcTurn X C tg elt ifs scope (own.map (·.2)) (kD kvs[j].1) (Γ.set i (.lck kvs)) (fun Γ5 => Γ5 = Γ.set i (.lck kvs) ∧ acc = ((List.range (j + 1)).filter q).map f) fun y Γ5 => acc.length ≤ 1000000 ∧ Γ5 = Γ.set i (.lck kvs) ∧ acc ++ [y] = ((List.range (j + 1)).filter q).map f := ?_
      exact hT
      refine LcTurn.mono (ht j hj) (fun Γ5 ⟨e3, e4⟩ => ⟨e3, ?_⟩) fun y Γ5 ⟨e3, e4, e6⟩ => ⟨?_, e3, ?_⟩
      · rw [e5, List.range_succ, List.filter_append, List.map_append]
        simp [e4]
      · rw [e5, List.length_map]
        refine Nat.le_trans (List.length_filter_le _ _) ?_
        rw [List.length_range]
        omega
      · rw [e5, List.range_succ, List.filter_append, List.map_append]
        simp [e4, e6]
    · subst q1 q2
      have hpt : p ≠ t := fun z => by
        subst z
        rw [show (C.plus p (.frz od (.dK ws))).F p = some (.frz od (.dK ws)) from upd_same] at f1
        cases f1
      have R3 := R1.del f1 f2 f4
      have R4 := Rl.unlockD hg h1 h3 hB0 R3 (kvRel_mono s1 h5)
      have ht0 : upd (delH H0 t) p (.dK ws) t = none := by rw [upd_ne (fun z => hpt z.symm)]; exact delH_same
      have := k t vs B' (upd (delH H0 t) p (.dK ws)) Γ _ s1 R4 ht0 hd' h
      rw [upd_swap hpt, delH_upd f3] at this
      exact ⟨R1.fh p _ upd_same, this⟩⟩
end
end Gh
end

section
/-! zip of a tuple and a list: the library has it for two lists and for two tuples; here for any two iterators, each known by what it yields. -/
namespace Gh
open PySem PySem.Spec PyProof.Rows L2
/-- the state of an iterator is told by two objects of the heap -/
def OnTwo (a b : Addr) (S : Heap → Prop) : Prop := ∀ h h' : Heap, S h → (∀ o, h.get? a = some o → h'.get? a = some o) → (∀ o, h.get? b = some o → h'.get? b = some o) → S h'
/-- next(it) yields x and leaves S' -/
def Gives (it : Addr) (S S' : Heap → Prop) (x : Value) : Prop := ∀ (prog : Program) (w : World) (A : Around) (E : Value → Shared → Prop) (s : Shared) (Q : Value → Shared → Prop), S s.heap →
  (∀ h', S' h' → Heap.SameBut it s.heap h' → Q x { s with heap := h' }) → wpAny (model prog w) A (Builtin.SmallTypes.nextOf (.ref it)) Q E s
/-- next(it) is at its end -/
def Ends1 (it : Addr) (S : Heap → Prop) : Prop := ∀ (prog : Program) (w : World) (A : Around) (E : Value → Shared → Prop) (s : Shared) (Q : Value → Shared → Prop), A.handled = none → S s.heap →
  (∀ h' e, Heap.ExtBut it s.heap h' → (∃ o, h'.get? e = some o ∧ o.cls = .type "StopIteration") → E (.ref e) { s with heap := h' }) → wpAny (model prog w) A (Builtin.SmallTypes.nextOf (.ref it)) Q E s
section
variable {prog : Program} {w : World} {A : Around} {E : Value → Shared → Prop} {s : Shared}
theorem OnTwo.ext {a b c : Addr} {S : Heap → Prop} (f : OnTwo a b S) {h h' : Heap} (e : Heap.ExtBut c h h') (ha : a ≠ c) (hb : b ≠ c) (x : S h) : S h' := f h h' x (fun _ z => e _ _ ha z) fun _ z => e _ _ hb z
theorem OnTwo.but {a b c : Addr} {S : Heap → Prop} (f : OnTwo a b S) {h h' : Heap} (e : Heap.SameBut c h h') (ha : a ≠ c) (hb : b ≠ c) (x : S h) : S h' := f.ext e.extBut ha hb x
theorem zipG_item {z TI TO i1 i2 l1 l2 : Addr} {x y a b : Value} {S1 S1' S2 S2' : Heap → Prop} {Q : Value → Shared → Prop} (D : ZipApart z TI TO i1 i2 l1 l2) (f1' : OnTwo i1 l1 S1') (f2' : OnTwo i2 l2 S2') (f1 : OnTwo i1 l1 S1) (f2 : OnTwo i2 l2 S2)
    (hz : IsZip s.heap z TI TO .none) (hTI : IsPair s.heap TI (.ref i1) (.ref i2)) (hTO : IsPair s.heap TO a b) (p1 : S1 s.heap) (p2 : S2 s.heap) (g1 : Gives i1 S1 S1' x) (g2 : Gives i2 S2 S2' y)
    (hQ : ∀ h', IsZip h' z TI TO (rawInt s.heap.objs.size) → IsPair h' TO x y → S1' h' → S2' h' → IsPair h' s.heap.objs.size x y → h'.objs.size = s.heap.objs.size + 1 →
      (∀ c o, c ≠ z → c ≠ TO → c ≠ i1 → c ≠ i2 → s.heap.get? c = some o → h'.get? c = some o) → Q (.ref s.heap.objs.size) { s with heap := h' }) (hlt1 : i1 < s.heap.objs.size) (hlt2 : i2 < s.heap.objs.size) (hl1 : l1 < s.heap.objs.size) (hl2 : l2 < s.heap.objs.size) :
    wpAny (model prog w) A (Builtin.«zip.__next__» ⟨[.ref z], []⟩) (fun fin s' => ∃ v, fin = .done (.ret v) ∧ Q v s') E s := by
  show wpAny _ _ (field (.ref z) 2 >>= _) _ _ _
  refine wpAny_bind (wpAny_field hz rfl (x := .bool false) rfl ?_)
  show wpAny _ _ (field (.ref z) 3 >>= _) _ _ _
  refine wpAny_bind (wpAny_field hz rfl (x := .ref TI) rfl ?_)
  refine wpAny_bind (wpAny_seqItems hTI rfl ?_)
  show wpAny _ _ (Builtin.SmallTypes.ownedTupleIsFree (.ref z) >>= _) _ _ _
  refine wpAny_bind ?_
  unfold Builtin.SmallTypes.ownedTupleIsFree
  refine wpAny_bind (wpAny_field hz rfl (x := .none) rfl (wpAny_pure ?_))
  simp only [if_true]
  refine wpAny_bind (wpAny_rule (wpAny_bind (wpAny_field hz rfl (x := .ref TO) rfl ?_)))
  refine wpAny_bind (wpAny_setField_rec hz (by simp) fun ha za sa => ?_)
  replace za : IsZip ha z TI TO .ellipsis := za
  refine wpAny_bind ?_
  simp only [List.zipIdx_cons, List.zipIdx_nil, List.forIn_cons, List.forIn_nil]
  refine wpAny_bind (wpAny_bind (wpAny_onRaise ?_))
  show wpAny _ _ (Builtin.SmallTypes.nextOf (.ref i1) >>= _) _ _ _
  refine wpAny_bind (g1 _ _ _ _ _ _ (f1.but sa D.i1z D.l1z p1) fun hb q1 sb => wpAny_pure ?_)
  have tb : IsPair hb TO a b := sb.extBut _ _ D.TOi1 (sa.extBut _ _ D.TOz hTO)
  refine wpAny_bind (wpAny_seqItems tb rfl (wpAny_bind (wpAny_updateSeq_pair tb fun hc tc sc => ?_)))
  replace tc : IsPair hc TO x b := tc
  refine wpAny_bind (wpAny_letGo (wpAny_pure ?_))
  refine wpAny_bind (wpAny_bind (wpAny_onRaise ?_))
  show wpAny _ _ (Builtin.SmallTypes.nextOf (.ref i2) >>= _) _ _ _
  refine wpAny_bind (g2 _ _ _ _ _ _ (f2.but sc D.TOi2.symm D.l2TO (f2.but sb D.i12.symm D.l2i1 (f2.but sa D.i2z D.l2z p2))) fun hd q2 sd => wpAny_pure ?_)
  have td : IsPair hd TO x b := sd.extBut _ _ D.TOi2 tc
  refine wpAny_bind (wpAny_seqItems td rfl (wpAny_bind (wpAny_updateSeq_pair td fun he te se => ?_)))
  replace te : IsPair he TO x y := te
  refine wpAny_bind (wpAny_letGo (wpAny_pure (wpAny_pure ?_)))
  refine wpAny_bind (wpAny_seqItems te rfl (wpAny_bind (wpAny_newTuple ?_)))
  have hsz : he.objs.size = s.heap.objs.size := by rw [se.1, sd.1, sc.1, sb.1, sa.1]
  have ze : IsZip he z TI TO .ellipsis := se.extBut _ _ D.TOz.symm (sd.extBut _ _ D.i2z.symm (sc.extBut _ _ D.TOz.symm (sb.extBut _ _ D.i1z.symm za)))
  have keep : ∀ c o, c ≠ z → c ≠ TO → c ≠ i1 → c ≠ i2 → s.heap.get? c = some o → he.get? c = some o := fun c o n1 n2 n3 n4 e => se.extBut _ _ n2 (sd.extBut _ _ n4 (sc.extBut _ _ n2 (sb.extBut _ _ n3 (sa.extBut _ _ n1 e))))
  have r1 : S1' he := f1'.but se D.TOi1.symm D.l1TO (f1'.but sd D.i12 D.l1i2 (f1'.but sc D.TOi1.symm D.l1TO q1))
  have r2 : S2' he := f2'.but se D.TOi2.symm D.l2TO q2
  have zlt : z < he.objs.size := Heap.lt_size ze
  show wpAny _ _ (Builtin.SmallTypes.ownedTupleHandOut (.ref z) (.ref he.objs.size) >>= _) _ _ _
  refine wpAny_bind ?_
  unfold Builtin.SmallTypes.ownedTupleHandOut
  have zf : IsZip (he.push { cls := .type "tuple", data := .seq #[x, y] }) z TI TO .ellipsis := Heap.get?_push_of_some _ ze
  refine wpAny_bind (wpAny_setField_rec zf (by simp) fun hg zg sg => ?_)
  replace zg : IsZip hg z TI TO (rawInt he.objs.size) := zg
  refine wpAny_setField_rec zg (by simp) fun hh zh sh => ?_
  replace zh : IsZip hh z TI TO (rawInt he.objs.size) := zh
  have up : ∀ c o, c ≠ z → he.get? c = some o → hh.get? c = some o := fun c o n e => sh.extBut _ _ n (sg.extBut _ _ n (Heap.get?_push_of_some _ e))
  have tk : IsPair hh he.objs.size x y := sh.extBut _ _ (Nat.ne_of_gt zlt) (sg.extBut _ _ (Nat.ne_of_gt zlt) (Heap.get?_push_size _ rfl))
  have hsz2 : hh.objs.size = he.objs.size + 1 := by rw [sh.1, sg.1, Heap.size_push]
  rw [hsz] at zh tk hsz2
  refine wpAny_pure ⟨_, rfl, ?_⟩
  show Q (.ref he.objs.size) _
  rw [hsz]
  exact hQ hh zh (up _ _ D.TOz te) (f1' _ _ r1 (fun o => up _ o D.i1z) fun o => up _ o D.l1z) (f2' _ _ r2 (fun o => up _ o D.i2z) fun o => up _ o D.l2z) tk hsz2 fun c o n1 n2 n3 n4 e => up c o n1 (keep c o n1 n2 n3 n4 e)
theorem zipG_end {z TI TO i1 i2 l1 l2 : Addr} {a b : Value} {S1 S2 : Heap → Prop} {Q : PySem.Fin → Shared → Prop} (hh : A.handled = none) (D : ZipApart z TI TO i1 i2 l1 l2) (f1 : OnTwo i1 l1 S1) (f2 : OnTwo i2 l2 S2)
    (hz : IsZip s.heap z TI TO .none) (hTI : IsPair s.heap TI (.ref i1) (.ref i2)) (hTO : IsPair s.heap TO a b) (p1 : S1 s.heap) (p2 : S2 s.heap) (g : Ends1 i1 S1 ∨ (∃ x S1', Gives i1 S1 S1' x) ∧ Ends1 i2 S2)
    (hE : ∀ h' e, (∀ c o, c ≠ z → c ≠ TO → c ≠ i1 → c ≠ i2 → s.heap.get? c = some o → h'.get? c = some o) → (∃ o, h'.get? e = some o ∧ o.cls = .type "StopIteration") → E (.ref e) { s with heap := h' }) :
    wpAny (model prog w) A (Builtin.«zip.__next__» ⟨[.ref z], []⟩) Q E s := by
  show wpAny _ _ (field (.ref z) 2 >>= _) _ _ _
  refine wpAny_bind (wpAny_field hz rfl (x := .bool false) rfl ?_)
  show wpAny _ _ (field (.ref z) 3 >>= _) _ _ _
  refine wpAny_bind (wpAny_field hz rfl (x := .ref TI) rfl ?_)
  refine wpAny_bind (wpAny_seqItems hTI rfl ?_)
  show wpAny _ _ (Builtin.SmallTypes.ownedTupleIsFree (.ref z) >>= _) _ _ _
  refine wpAny_bind ?_
  unfold Builtin.SmallTypes.ownedTupleIsFree
  refine wpAny_bind (wpAny_field hz rfl (x := .none) rfl (wpAny_pure ?_))
  simp only [if_true]
  refine wpAny_bind (wpAny_rule (wpAny_bind (wpAny_field hz rfl (x := .ref TO) rfl ?_)))
  refine wpAny_bind (wpAny_setField_rec hz (by simp) fun ha za sa => ?_)
  replace za : IsZip ha z TI TO .ellipsis := za
  refine wpAny_bind ?_
  simp only [List.zipIdx_cons, List.zipIdx_nil, List.forIn_cons, List.forIn_nil]
  refine wpAny_bind (wpAny_bind (wpAny_onRaise ?_))
  show wpAny _ _ (Builtin.SmallTypes.nextOf (.ref i1) >>= _) _ _ _
  rcases g with g | ⟨⟨x, S1', g1⟩, g2⟩
  · refine wpAny_bind (g _ _ _ _ _ _ hh (f1.but sa D.i1z D.l1z p1) fun hb e sb he => ?_)
    obtain ⟨oe, hoe, hce⟩ := he
    have zb : IsZip hb z TI TO .ellipsis := sb _ _ D.i1z.symm za
    have hez : e ≠ z := fun q => by subst q; rw [zb] at hoe; cases hoe; simp at hce
    exact wpAny_setField_rec zb (by simp) fun hc _ sc => hE hc e (fun c o n1 _ n3 _ q => sc.extBut _ _ n1 (sb _ _ n3 (sa.extBut _ _ n1 q))) ⟨oe, sc.extBut _ _ hez hoe, hce⟩
  · refine wpAny_bind (g1 _ _ _ _ _ _ (f1.but sa D.i1z D.l1z p1) fun hb q1 sb => wpAny_pure ?_)
    have tb : IsPair hb TO a b := sb.extBut _ _ D.TOi1 (sa.extBut _ _ D.TOz hTO)
    refine wpAny_bind (wpAny_seqItems tb rfl (wpAny_bind (wpAny_updateSeq_pair tb fun hc tc sc => ?_)))
    refine wpAny_bind (wpAny_letGo (wpAny_pure ?_))
    refine wpAny_bind (wpAny_bind (wpAny_onRaise ?_))
    show wpAny _ _ (Builtin.SmallTypes.nextOf (.ref i2) >>= _) _ _ _
    refine wpAny_bind (g2 _ _ _ _ _ _ hh (f2.but sc D.TOi2.symm D.l2TO (f2.but sb D.i12.symm D.l2i1 (f2.but sa D.i2z D.l2z p2))) fun hd e sd he => ?_)
    obtain ⟨oe, hoe, hce⟩ := he
    have zd : IsZip hd z TI TO .ellipsis := sd _ _ D.i2z.symm (sc.extBut _ _ D.TOz.symm (sb.extBut _ _ D.i1z.symm za))
    have hez : e ≠ z := fun q => by subst q; rw [zd] at hoe; cases hoe; simp at hce
    exact wpAny_setField_rec zd (by simp) fun hf _ sf => hE hf e (fun c o n1 n2 n3 n4 q => sf.extBut _ _ n1 (sd _ _ n4 (sc.extBut _ _ n2 (sb.extBut _ _ n3 (sa.extBut _ _ n1 q))))) ⟨oe, sf.extBut _ _ hez hoe, hce⟩
theorem pyNext_zipG_item {z TI TO i1 i2 l1 l2 : Addr} {x y a b : Value} {S1 S1' S2 S2' : Heap → Prop} {Q : Option Value → Shared → Prop} (D : ZipApart z TI TO i1 i2 l1 l2) (f1' : OnTwo i1 l1 S1') (f2' : OnTwo i2 l2 S2') (f1 : OnTwo i1 l1 S1) (f2 : OnTwo i2 l2 S2)
    (hz : IsZip s.heap z TI TO .none) (hTI : IsPair s.heap TI (.ref i1) (.ref i2)) (hTO : IsPair s.heap TO a b) (p1 : S1 s.heap) (p2 : S2 s.heap) (g1 : Gives i1 S1 S1' x) (g2 : Gives i2 S2 S2' y)
    (hQ : ∀ h', IsZip h' z TI TO (rawInt s.heap.objs.size) → IsPair h' TO x y → S1' h' → S2' h' → IsPair h' s.heap.objs.size x y → h'.objs.size = s.heap.objs.size + 1 →
      (∀ c o, c ≠ z → c ≠ TO → c ≠ i1 → c ≠ i2 → s.heap.get? c = some o → h'.get? c = some o) → Q (some (.ref s.heap.objs.size)) { s with heap := h' }) (hlt1 : i1 < s.heap.objs.size) (hlt2 : i2 < s.heap.objs.size) (hl1 : l1 < s.heap.objs.size) (hl2 : l2 < s.heap.objs.size) :
    wpAny (model prog w) A (pyNext (.ref z)) Q E s := by
  have hT : s.TypeIs (.ref z) "zip" := ⟨_, hz, rfl⟩
  unfold pyNext
  refine wpAny_bind (wpAny_attempt (wpAny_callSpecial?_slot (name := Str.ofString "__next__") hT PySem.F.slot_zip_next (wpAny_call_entry PySem.F.slot_zip_next hT PySem.F.entry_zip_next ?_ (PySem.F.args_zip_next_1 _))))
  exact zipG_item D f1' f2' f1 f2 hz hTI hTO p1 p2 g1 g2 (fun h' q1 q2 q3 q4 q5 q6 q7 => wpAny_pure (hQ h' q1 q2 q3 q4 q5 q6 q7)) hlt1 hlt2 hl1 hl2
theorem pyNext_zipG_end {z TI TO i1 i2 l1 l2 : Addr} {a b : Value} {S1 S2 : Heap → Prop} {Q : Option Value → Shared → Prop} (hh : A.handled = none) (D : ZipApart z TI TO i1 i2 l1 l2) (f1 : OnTwo i1 l1 S1) (f2 : OnTwo i2 l2 S2)
    (hz : IsZip s.heap z TI TO .none) (hTI : IsPair s.heap TI (.ref i1) (.ref i2)) (hTO : IsPair s.heap TO a b) (p1 : S1 s.heap) (p2 : S2 s.heap) (g : Ends1 i1 S1 ∨ (∃ x S1', Gives i1 S1 S1' x) ∧ Ends1 i2 S2)
    (hQ : ∀ h', (∀ c o, c ≠ z → c ≠ TO → c ≠ i1 → c ≠ i2 → s.heap.get? c = some o → h'.get? c = some o) → Q none { s with heap := h' }) : wpAny (model prog w) A (pyNext (.ref z)) Q E s := by
  have hT : s.TypeIs (.ref z) "zip" := ⟨_, hz, rfl⟩
  unfold pyNext
  refine wpAny_bind (wpAny_attempt (wpAny_callSpecial?_slot (name := Str.ofString "__next__") hT PySem.F.slot_zip_next (wpAny_call_entry PySem.F.slot_zip_next hT PySem.F.entry_zip_next ?_ (PySem.F.args_zip_next_1 _))))
  refine zipG_end hh D f1 f2 hz hTI hTO p1 p2 g fun h' e hk ⟨o, ho, hc⟩ => ?_
  exact wpAny_bind (wpAny_isInstance (T := "StopIteration") (b := true) ⟨o, ho, hc⟩ isSubtype_stop (wpAny_pure (hQ _ hk)))
end

def TupAtI (it l : Addr) (xs : Array Value) (i : Nat) : Heap → Prop := fun h => h.IsTupleIter it l i ∧ h.IsTuple l xs
def LstAtI (it l : Addr) (xs : Array Value) (i : Nat) : Heap → Prop := fun h => h.IsListIter it l i ∧ h.IsList l xs
theorem tupAt_on {it l : Addr} {xs : Array Value} {i : Nat} : OnTwo it l (TupAtI it l xs i) := fun h h' ⟨a, b⟩ k1 k2 => ⟨a.at fun o e => k1 o e, b.at fun o e => k2 o e⟩
theorem lstAt_on {it l : Addr} {xs : Array Value} {i : Nat} : OnTwo it l (LstAtI it l xs i) := fun h h' ⟨a, b⟩ k1 k2 => ⟨a.at fun o e => k1 o e, b.at fun o e => k2 o e⟩
theorem tupAt_gives {it l : Addr} {xs : Array Value} {i : Nat} {x : Value} (hne : l ≠ it) (hx : xs[i]? = some x) : Gives it (TupAtI it l xs i) (TupAtI it l xs (i + 1)) x := fun prog w A E s Q ⟨a, b⟩ h =>
  RZ.nextOf_tuple_item a b hx fun h' a' sb => h h' ⟨a', b.at fun o e => sb.extBut _ _ hne e⟩ sb
theorem lstAt_gives {it l : Addr} {xs : Array Value} {i : Nat} {x : Value} (hne : l ≠ it) (hx : xs[i]? = some x) : Gives it (LstAtI it l xs i) (LstAtI it l xs (i + 1)) x := fun prog w A E s Q ⟨a, b⟩ h =>
  wpAny_nextOf_list_item a b hx fun h' a' sb => h h' ⟨a', b.at fun o e => sb.extBut _ _ hne e⟩ sb
theorem tupAt_ends {it l : Addr} {xs : Array Value} {i : Nat} (hx : xs[i]? = none) : Ends1 it (TupAtI it l xs i) := fun prog w A E s Q hh ⟨a, b⟩ h => RZ.nextOf_tuple_end hh a b hx h
theorem lstAt_ends {it l : Addr} {xs : Array Value} {i : Nat} (hx : xs[i]? = none) : Ends1 it (LstAtI it l xs i) := fun prog w A E s Q hh ⟨a, b⟩ h => wpAny_nextOf_list_end hh a b hx h
/-! ### zip(t, l) is made -/
def mz1 (h : Heap) (a : Addr) : Heap := h.push { cls := .type "tuple_iterator", data := .fields #[.ref a, .int 0 0] }
def mz2 (h : Heap) (a b : Addr) : Heap := (mz1 h a).push { cls := .type "list_iterator", data := .fields #[.ref b, .int 0 0] }
def mz3 (h : Heap) (a b : Addr) : Heap := (mz2 h a b).push { cls := .type "tuple", data := .seq #[.ref h.objs.size, .ref (mz1 h a).objs.size] }
def mz4 (h : Heap) (a b : Addr) : Heap := (mz3 h a b).push { cls := .type "tuple", data := .seq #[.none, .none] }
def mz5 (h : Heap) (a b : Addr) : Heap := (mz4 h a b).push { cls := .type "zip", data := .fields #[.none, .bool false, .bool false, .ref (mz2 h a b).objs.size, .ref (mz3 h a b).objs.size] }
theorem zipM_new (a b : Addr) (xs ys : Array Value) :
    Meets (Builtin.«zip.__new__» ⟨[.type "zip", .ref a, .ref b], []⟩) (fun _ R s => s.heap.IsTuple a xs ∧ s.heap.IsList b ys ∧ R (.ok (.ret (.ref (mz4 s.heap a b).objs.size))) { s with heap := mz5 s.heap a b }) :=
  .of_wp fun prog w A R s h => by
    obtain ⟨hp, g, d, tk, os⟩ := s
    obtain ⟨ha, hb, h⟩ := h
    have hsub := sub_zip
    have h1 : Heap.IsTuple (Shared.heap ⟨hp, g, d, tk, os⟩) a xs := ha
    have h2 : Heap.IsList (Shared.heap ⟨hp.push { cls := .type "tuple_iterator", data := .fields #[.ref a, .int 0 0] }, g, d, tk, os⟩) b ys := Heap.IsList.push hb _
    wp_walk using wpAny_pyIter_tuple h1, wpAny_pyIter_list h2
    exact ⟨_, rfl, h⟩
section
variable {prog : Program} {w : World} {A : Around} {E : Value → Shared → Prop} {s : Shared}
theorem call_zipM {a b : Addr} {xs ys : Array Value} {Q : Value → Shared → Prop} (ha : s.heap.IsTuple a xs) (hb : s.heap.IsList b ys)
    (h : ∀ h', IsZip h' (s.heap.objs.size + 4) (s.heap.objs.size + 2) (s.heap.objs.size + 3) .none → IsPair h' (s.heap.objs.size + 2) (.ref s.heap.objs.size) (.ref (s.heap.objs.size + 1)) →
      IsPair h' (s.heap.objs.size + 3) .none .none → h'.IsTupleIter s.heap.objs.size a 0 → h'.IsListIter (s.heap.objs.size + 1) b 0 → (∀ c o, s.heap.get? c = some o → h'.get? c = some o) → Q (.ref (s.heap.objs.size + 4)) { s with heap := h' }) :
    wpAny (model prog w) A (call (.type "zip") [.ref a, .ref b]) Q E s := by
  refine callType_new PySem.F.called_zip (by decide) (PySem.F.typeCall_zip_2 _ _) (PySem.F.newCall_zip_2 _ _) (fun obj => PySem.F.args_object_init_3 obj _ _) PySem.F.entry_zip_new (zipM_new a b xs ys) ⟨ha, hb, ?_⟩
  have e1 : (mz1 s.heap a).objs.size = s.heap.objs.size + 1 := Heap.size_push ..
  have e2 : (mz2 s.heap a b).objs.size = s.heap.objs.size + 2 := by unfold mz2; rw [Heap.size_push, e1]
  have e3 : (mz3 s.heap a b).objs.size = s.heap.objs.size + 3 := by unfold mz3; rw [Heap.size_push, e2]
  have e4 : (mz4 s.heap a b).objs.size = s.heap.objs.size + 4 := by unfold mz4; rw [Heap.size_push, e3]
  have k0 : ∀ c o, s.heap.get? c = some o → (mz1 s.heap a).get? c = some o := fun c o e => Heap.get?_push_of_some _ e
  have k1 : ∀ c o, (mz1 s.heap a).get? c = some o → (mz2 s.heap a b).get? c = some o := fun c o e => Heap.get?_push_of_some _ e
  have k2 : ∀ c o, (mz2 s.heap a b).get? c = some o → (mz3 s.heap a b).get? c = some o := fun c o e => Heap.get?_push_of_some _ e
  have k3 : ∀ c o, (mz3 s.heap a b).get? c = some o → (mz4 s.heap a b).get? c = some o := fun c o e => Heap.get?_push_of_some _ e
  have k4 : ∀ c o, (mz4 s.heap a b).get? c = some o → (mz5 s.heap a b).get? c = some o := fun c o e => Heap.get?_push_of_some _ e
  have t1 : (mz1 s.heap a).get? s.heap.objs.size = some { cls := .type "tuple_iterator", data := .fields #[.ref a, .int 0 0] } := Heap.get?_push_size _ rfl
  have t2 : (mz2 s.heap a b).get? (mz1 s.heap a).objs.size = some { cls := .type "list_iterator", data := .fields #[.ref b, .int 0 0] } := Heap.get?_push_size _ rfl
  have t3 : (mz3 s.heap a b).get? (mz2 s.heap a b).objs.size = some { cls := .type "tuple", data := .seq #[.ref s.heap.objs.size, .ref (mz1 s.heap a).objs.size] } := Heap.get?_push_size _ rfl
  have t4 : (mz4 s.heap a b).get? (mz3 s.heap a b).objs.size = some { cls := .type "tuple", data := .seq #[.none, .none] } := Heap.get?_push_size _ rfl
  have t5 : (mz5 s.heap a b).get? (mz4 s.heap a b).objs.size = some { cls := .type "zip", data := .fields #[.none, .bool false, .bool false, .ref (mz2 s.heap a b).objs.size, .ref (mz3 s.heap a b).objs.size] } := Heap.get?_push_size _ rfl
  rw [e2, e3, e4] at t5
  rw [e3] at t4
  rw [e1, e2] at t3
  rw [e1] at t2
  show _ ∧ _
  rw [e4]
  exact ⟨⟨_, t5, rfl⟩, h _ t5 (k4 _ _ (k3 _ _ t3)) (k4 _ _ t4) ⟨_, k4 _ _ (k3 _ _ (k2 _ _ (k1 _ _ t1))), rfl, rfl⟩ ⟨_, k4 _ _ (k3 _ _ (k2 _ _ t2)), rfl, rfl⟩ fun c o e => k4 _ _ (k3 _ _ (k2 _ _ (k1 _ _ (k0 _ _ e))))⟩
end
/-- the tuple at a and the list at b -/
def ItzM (K : PySem.W.Frag) (a b : Addr) : It :=
  ⟨fun i H => ∃ (xs ys : List V), SqT K H a xs ∧ SqL K H b ys ∧ i < xs.length ∧ i < ys.length,
    fun i H v H' => ∃ T x y, v = .ref T ∧ H T = none ∧ H' = upd H T (.tup [x, y]) ∧ (∀ xs, SqT K H a xs → xs[i]? = some x) ∧ ∀ ys, SqL K H b ys → ys[i]? = some y,
    fun i H => ∃ (xs ys : List V), SqT K H a xs ∧ SqL K H b ys ∧ (xs.length ≤ i ∨ ys.length ≤ i)⟩
theorem turn_zipM {P : Program} {w : World} {K : PySem.W.Frag} {elts : List Expr} {kk : Nat} {tpos : Pos} {a b z TI TO i1 i2 : Addr} (D : ZipApart z TI TO i1 i2 a b) :
    Turn P w K (.Tuple elts kk tpos) (ItzM K a b) [z, TI, TO, i1, i2] z (fun i h => IsZip h z TI TO .none ∧ IsPair h TI (.ref i1) (.ref i2) ∧ (∃ x y, IsPair h TO x y) ∧ h.IsTupleIter i1 a i ∧ h.IsListIter i2 b i) where
  mem := List.mem_cons_self
  obj := fun i h ⟨hz, hTI, ⟨x, y, hTO⟩, ⟨o1, e1, _, d1⟩, ⟨o2, e2, _, d2⟩⟩ c hc => by
    simp only [List.mem_cons, List.not_mem_nil, or_false] at hc
    rcases hc with rfl | rfl | rfl | rfl | rfl
    · exact ⟨_, hz, fun v q => nomatch q⟩
    · exact ⟨_, hTI, fun v q => nomatch q⟩
    · exact ⟨_, hTO, fun v q => nomatch q⟩
    · exact ⟨o1, e1, fun v q => by rw [d1] at q; cases q⟩
    · exact ⟨o2, e2, fun v q => by rw [d2] at q; cases q⟩
  keep := fun i h h' ⟨hz, hTI, ⟨x, y, hTO⟩, h1, h2⟩ k => ⟨k z (by simp) _ hz, k TI (by simp) _ hTI, ⟨x, y, k TO (by simp) _ hTO⟩, h1.at fun o q => k i1 (by simp) o q, h2.at fun o q => k i2 (by simp) o q⟩
  item := by
    intro X hP hw hK hc i pins s σ H E I hf st hg
    subst hP hw hK
    obtain ⟨hz, hTI, ⟨x0, y0, hTO⟩, h1, h2⟩ := st
    obtain ⟨xs, ys, hqx, hqy, hix, hiy⟩ := hg
    obtain ⟨its, rv, p, _⟩ := I.tuple hqx
    obtain ⟨its2, rv2, p2, _⟩ := I.list hqy
    obtain ⟨u, hu, ru⟩ := rv.get (List.getElem?_eq_getElem hix)
    obtain ⟨u2, hu2, ru2⟩ := rv2.get (List.getElem?_eq_getElem hiy)
    have zlt : z < s.heap.objs.size := Heap.lt_size hz
    have i1lt : i1 < s.heap.objs.size := by obtain ⟨_, e, _⟩ := h1; exact Heap.lt_size e
    have i2lt : i2 < s.heap.objs.size := by obtain ⟨_, e, _⟩ := h2; exact Heap.lt_size e
    have alt : a < s.heap.objs.size := by obtain ⟨_, e, _⟩ := p; exact Heap.lt_size e
    have blt : b < s.heap.objs.size := by obtain ⟨_, e, _⟩ := p2.isList; exact Heap.lt_size e
    refine pyNext_zipG_item D tupAt_on lstAt_on tupAt_on lstAt_on hz hTI hTO (show TupAtI i1 a its.toArray i s.heap from ⟨h1, p⟩) (show LstAtI i2 b its2.toArray i s.heap from ⟨h2, p2.isList⟩) (tupAt_gives D.l1i1 (by simpa using hu)) (lstAt_gives D.l2i2 (by simpa using hu2)) (fun h' zA tA s1 s2 tN hsz hk => ?_) i1lt i2lt alt blt
    refine ⟨_, rfl, wpAny_letOwnedTupleGo_zip (s := { s with heap := h' }) zA fun h'' zB sb => ?_⟩
    have tN2 : h''.get? s.heap.objs.size = some { cls := .type "tuple", data := .seq #[u, u2] } := (sb.2 _ (Nat.ne_of_gt zlt)).trans tN
    have new : ObjOk X.prog X.w (upd H s.heap.objs.size (.tup [xs[i], ys[i]])) h'' s.heap.objs.size (.tup [xs[i], ys[i]]) :=
      ⟨by show 2 ≤ sizeLine; decide, [u, u2], .cons ru (.cons ru2 .nil), ⟨_, tN2, rfl, _, rfl⟩⟩
    have hold : ∀ c o, c ∉ [z, TI, TO, i1, i2] → s.heap.get? c = some o → h''.get? c = some o := fun c o hb q => by
      simp only [List.mem_cons, List.not_mem_nil, or_false, not_or] at hb
      exact (sb.2 c hb.1).trans (hk c o hb.1 hb.2.2.1 hb.2.2.2.1 hb.2.2.2.2 q)
    have I1 : Inv X pins σ (upd H s.heap.objs.size (.tup [xs[i], ys[i]])) { s with heap := h'' } := I.turnedNew (t' := s.toks) (ch := [z, TI, TO, i1, i2]) hold hf (Nat.le_refl _) new
    refine ⟨.ref s.heap.objs.size, _, I1, rfl, ⟨_, xs[i], ys[i], rfl, I.hok.fresh (Nat.le_refl _), rfl, fun l hl => by rw [I.tuple_inj hl hqx]; exact List.getElem?_eq_getElem hix, fun l hl => ?_⟩, ⟨zB, (sb.2 _ D.TIz).trans (hk _ _ D.TIz D.TITO D.TIi1 D.TIi2 hTI), ⟨u, u2, (sb.2 _ D.TOz).trans tA⟩, s1.1.at fun o q => (sb.2 _ D.i1z).trans q, s2.1.at fun o q => (sb.2 _ D.i2z).trans q⟩, fun c hcm => ?_⟩
    · rw [I.list_inj hl hqy]; exact List.getElem?_eq_getElem hiy
    · have hlt : c < s.heap.objs.size := by
        simp only [List.mem_cons, List.not_mem_nil, or_false] at hcm
        rcases hcm with rfl | rfl | rfl | rfl | rfl
        · exact zlt
        · exact Heap.lt_size hTI
        · exact Heap.lt_size hTO
        · exact i1lt
        · exact i2lt
      rw [upd_ne (Nat.ne_of_lt hlt)]
      exact (hf c hcm).1
  done := by
    intro X hP hw hK hc i pins s σ H E I hf st hg
    subst hP hw hK
    obtain ⟨hz, hTI, ⟨x0, y0, hTO⟩, h1, h2⟩ := st
    obtain ⟨xs, ys, hqx, hqy, hend⟩ := hg
    obtain ⟨its, rv, p, _⟩ := I.tuple hqx
    obtain ⟨its2, rv2, p2, _⟩ := I.list hqy
    have l1 := rv.length
    have l2 := rv2.length
    refine pyNext_zipG_end (I.ok.hd hc) D (S1 := TupAtI i1 a its.toArray i) (S2 := LstAtI i2 b its2.toArray i) tupAt_on lstAt_on hz hTI hTO ⟨h1, p⟩ ⟨h2, p2.isList⟩ ?_ fun h' hk => ⟨rfl, I.turnedL (t' := s.toks) (ch := [z, TI, TO, i1, i2]) (fun c o hb q => ?_) hf⟩
    · by_cases hx : i < its.length
      · have hx2 : its.toArray[i]? = some its[i] := by simp [hx]
        refine .inr ⟨⟨_, _, tupAt_gives D.l1i1 hx2⟩, lstAt_ends ?_⟩
        rcases hend with q | q
        · omega
        · exact Array.getElem?_eq_none (by simp; omega)
      · exact .inl (tupAt_ends (Array.getElem?_eq_none (by simp; omega)))
    · simp only [List.mem_cons, List.not_mem_nil, or_false, not_or] at hb
      exact hk c o hb.1 hb.2.2.1 hb.2.2.2.1 hb.2.2.2.2 q
  self := fun A i s Q E st h => wpAny_pyIter_zip st.1 h
def iZipM (K : PySem.W.Frag) (ta : TA) : TI := fun σ H R => ta σ H fun vs H1 => ∃ a b xs ys, vs = [.ref a, .ref b] ∧ SqT K H1 a xs ∧ SqL K H1 b ys ∧ R (ItzM K a b) H1
theorem pi_zipM {X : Cx} {e e2 : Expr} {ta : TA} {p pos tpos : Pos} {elts : List Expr} {kk : Nat} (hg : Gl X "zip") (hm : X.mg "zip" = none) (ha : PA X [e, e2] ta)
    (hs : starEach [e, e2] X.env = (false, eval e X.env) :: starEach [e2] X.env := by rfl) (hpl : (backTo pos (starEach [e2] X.env)).any (·.1) = false := by rfl) :
    PI X (.Tuple elts kk tpos) (.Call (.Name "zip" p) [e, e2] [] pos) (iZipM X.K ta) := ⟨fun pins s σ H R I h => by
  refine Call_ (ld_blt I hg hm PyProof.Rows.boot_zip (PyProof.Rows.callWith_type1 (thn (ha.run pos pins s σ H _ I h) fun us s1 ⟨vs, H1, I1, r1, a, b, xs, ys, ex, hqx, hqy, q⟩ => ?_) hs hpl))
  subst ex
  cases r1 with
  | cons r rr =>
    cases rr with
    | cons r' rr =>
      cases rr
      cases r
      cases r'
      obtain ⟨its, rv, p1, _⟩ := I1.tuple hqx
      obtain ⟨its2, rv2, p2, _⟩ := I1.list hqy
      obtain ⟨o1, ho1, _⟩ := id p1
      refine call_zipM (show s1.heap.IsTuple a its.toArray from p1) p2.isList fun h' hz hTI hTO h1 h2 hk => wpAny_pyIter_zip hz ?_
      have I2 : Inv X pins σ H1 { s1 with heap := h' } := I1.kept (t' := s1.toks) hk
      refine ⟨s1.heap.objs.size + 4, [s1.heap.objs.size + 4, s1.heap.objs.size + 2, s1.heap.objs.size + 3, s1.heap.objs.size, s1.heap.objs.size + 1], _, _, H1, rfl, I2, turn_zipM (PySem.W.ktu_apart s1.heap.objs.size a b (Heap.lt_size ho1) p2.lt), ⟨hz, hTI, ⟨_, _, hTO⟩, h1, h2⟩, fun c hc => ?_, q⟩
      have hle : s1.heap.objs.size ≤ c := by
        simp only [List.mem_cons, List.not_mem_nil, or_false] at hc
        rcases hc with rfl | rfl | rfl | rfl | rfl <;> first | exact Nat.le_refl _ | exact Nat.le_add_right _ _
      exact I1.fpOk hle (I1.hok.fresh hle)⟩
theorem itzM_ok {K : PySem.W.Frag} {F B1 : Hp} {a b : Addr} {vs ws : List V} {ds es : List PyData} (ha : SqT K B1 a vs) (hb : SqL K B1 b ws) (hd : DpAll K B1 vs ds) (he : DpAll K B1 ws es) : ItOk K F B1 (ItzM K a b) (min ds.length es.length) (fun i => .tuple [ds.getD i .none, es.getD i .none]) := fun i B H s bh _ => by
  have h1 := sqT_mono (s.trans bh) ha
  have h2 := sqL_mono (s.trans bh) hb
  have l1 := dpAll_len hd
  have l2 := dpAll_len he
  refine ⟨fun hi => ⟨vs, ws, h1, h2, by omega, by omega⟩, fun hi => ⟨vs, ws, h1, h2, by omega⟩, fun v H' hi ⟨T, x, y, ev, hT, eH, q1, q2⟩ => ?_⟩
  subst ev eH
  obtain ⟨d1, e1, r1⟩ := dpAll_get' hd (q1 vs h1)
  obtain ⟨d2, e2, r2⟩ := dpAll_get' he (q2 ws h2)
  refine ⟨upd B T (.tup [x, y]), Grow.new bh hT, ?_⟩
  show Dp K (upd B T (.tup [x, y])) (.ref T) (.tuple [ds.getD i .none, es.getD i .none])
  rw [List.getD_eq_getElem?_getD, e1, List.getD_eq_getElem?_getD, e2]
  have sb : Same B (upd B T (.tup [x, y])) := same_upd (bh.free hT)
  exact .tup (SqT.of upd_same) (.cons (dp_mono (s.trans sb) _ _ r1) (.cons (dp_mono (s.trans sb) _ _ r2) .nil))
section
variable {X : Cx} {C : GC} {Γ : GS} {a b : Expr} {pos p : Pos}
theorem xi_zipM {elts : List Expr} {kk : Nat} {tpos : Pos} {Ψ : Nat → (Nat → PyData) → GS → Prop} (hm : X.mg "zip" = none) (h : Xa X C [a, b] Γ fun ds Γ1 => ∃ xs ys, ds = [.tuple xs, .list ys] ∧ Ψ (min xs.length ys.length) (fun i => .tuple [xs.getD i .none, ys.getD i .none]) Γ1)
    (hg : Gl X "zip" := by rfl) (hs : starEach [a, b] X.env = (false, eval a X.env) :: starEach [b] X.env := by rfl) (hpl : (backTo pos (starEach [b] X.env)).any (·.1) = false := by rfl) : Xi X C (.Tuple elts kk tpos) (.Call (.Name "zip" p) [a, b] [] pos) Γ Ψ :=
  ⟨fun B H σ Rl R k => wpi_of (pi_zipM hg hm pa_w hs hpl) (h.run B H σ Rl _ fun vs B1 H1 Γ1 ds s1 R1 hd ⟨xs, ys, ed, q⟩ => by
    subst ed
    cases hd with
    | cons h1 h2 =>
      cases h2 with
      | cons h2 h3 =>
        cases h3
        obtain ⟨r1, v1, rfl, t1, t2⟩ := dp_tup h1
        obtain ⟨r2, v2, rfl, t3, t4⟩ := dp_lst h2
        exact ⟨r1, r2, v1, v2, rfl, sqT_mono R1.bh t1, sqL_mono R1.bh t3, k _ _ _ B1 H1 Γ1 s1 R1 (itzM_ok t1 t3 t2 t4) q⟩)⟩
end
end Gh
end

section
/-! set(l) of a list of ints, at the library's level. -/
namespace Gh
open PySem PySem.Spec PyProof.Rows L2
section
variable {P : Program} {w : World} {A : Around} {E : Value → Shared → Prop} {s : Shared}
abbrev bareSet (w : World) : Obj := { cls := .type "set", dict := none, data := .set #[] 0 (.fresh 0 0 (!w.params.followText "set-order")) }
abbrev withSet (w : World) (h : Heap) : Heap := h.push (bareSet w)
/-- the library has this for a tuple of ints and for a list of tuples -/
theorem call_set_lstI {l : Addr} {items : Array Value} (ns : List Int) {Q : Value → Shared → Prop} (hh : A.handled = none) (hl : s.heap.IsList l items) (hit : IntsAre items.toList ns) (hb : ns.length + 1 < scanBound)
    (h : ∀ (h' : Heap) (tk c : Nat), SetR w h' s.heap.objs.size (fun j => decide (j ∈ ns)) c → c ≤ ns.length → (∀ b o, s.heap.get? b = some o → h'.get? b = some o) → Q (.ref s.heap.objs.size) { s with heap := h', toks := tk }) :
    wpAny (model P w) A (call (.type "set") [.ref l]) Q E s := by
  have hisz : items.size = ns.length := by rw [← IntsAre.length hit, Array.length_toList]
  obtain ⟨c, tl, hmro⟩ := PySem.F.called_set.mro
  have hmade := PySem.F.called_set.made
  have hsub := PySem.F.called_set.sub
  refine wpAny_call (codeAny_of_tree ?_)
  show wpAny _ _ (callAny (.type "set") _) _ _ _
  refine wpAny_pure ⟨Code.quiet_builtin _ (by decide +kernel), codeAny_builtin PySem.F.entry_type_call ?_⟩
  rw [Around.under_plain (weight_type_call_type "set" [.ref l] []) rfl]
  have h1 := PySem.F.called_set.notType
  have h2 := PySem.F.called_set.canCreate
  have hct := PySem.F.typeCall_set_1 (.ref l)
  repeat (any_goals (first | assumption | wp_step))
  refine codeAny_mono (code_set_led1 (.ref l) (E := E) (Q₁ := fun obj s₁ => obj = .ref s.heap.objs.size ∧ s₁ = { s with heap := withSet w s.heap }) ⟨rfl, rfl⟩) fun r s₁ hr => ?_
  match r, hr with
  | .error e, hr => exact hr
  | .ok .next, hr => exact hr.elim
  | .ok .brk, hr => exact hr.elim
  | .ok .cont, hr => exact hr.elim
  | .ok (.ret obj), hr =>
    obtain ⟨rfl, rfl⟩ := hr
    have hS : (withSet w s.heap).get? s.heap.objs.size = some (bareSet w) := Heap.get?_push_size _ rfl
    have hT : Shared.TypeIs { s with heap := withSet w s.heap } (.ref s.heap.objs.size) "set" := ⟨_, hS, rfl⟩
    have hli := PySem.F.called_set.init.lookup
    have hbi := PySem.F.called_set.init.bind (.ref s.heap.objs.size)
    repeat (any_goals (first | assumption | wp_step))
    refine codeAny_mono (codeAny_call_builtin (R := wants (fun r s₂ => r = .none ∧ ∃ h' tk c, s₂ = { s with heap := h', toks := tk } ∧ SetR w h' s.heap.objs.size (fun j => decide (j ∈ ns)) c ∧ c ≤ ns.length ∧ ∀ b o, s.heap.get? b = some o → h'.get? b = some o) E) PySem.F.called_set.init.plain PySem.F.entry_set_init (check_set_init_1 hT ?_)) fun r₂ s₂ hr₂ => ?_
    · obtain ⟨⟨ocls, odict, odata, oslots⟩, hol, hcl, nl, hdl⟩ := hl
      simp only at hcl hdl
      subst hcl; subst hdl
      have hol' : (withSet w s.heap).get? l = some { cls := .type "list", dict := odict, data := .seq items nl, slots := oslots } := Heap.get?_push_of_some _ hol
      have hsls := PySem.F.sub_list_set
      have hslf := PySem.F.sub_list_frozenset
      have hne : (Value.type "list" == Value.type "dict") = false := by decide
      have hl1 : (withSet w s.heap).IsList l items := ⟨_, hol', rfl, nl, rfl⟩
      unfold Builtin.«set.__init__» noKeywords Builtin.Frozenset.updateFrom
      generalize hPI : pyIter = PI
      wp_walk
      subst hPI
      refine wpAny_pyIter_list hl1 (wpAny_bind (wpAny_runValue ?_))
      have hlS : l < s.heap.objs.size := Heap.lt_size hol
      have hh3 : A.in1.in1.in1.handled = none := by simp [hh]
      have zs : (withSet w s.heap).objs.size = s.heap.objs.size + 1 := Heap.size_push ..
      have hneI : l ≠ (withSet w s.heap).objs.size := by rw [zs]; exact Nat.ne_of_lt (Nat.lt_succ_of_lt hlS)
      have hSf : s.heap.objs.size ∉ [(withSet w s.heap).objs.size, l] := by
        rw [zs]
        simp only [List.mem_cons, List.not_mem_nil, or_false, not_or]
        exact ⟨Nat.ne_of_lt (Nat.lt_succ_self _), Nat.ne_of_gt hlS⟩
      have hval : ∀ (i : Nat) (v : Value), items[i]? = some v → ∃ k t, ns[i]? = some k ∧ v = .int k t := fun i v hv => by
        have hi : i < ns.length := by rw [← hisz]; exact (Array.getElem?_eq_some_iff.mp hv).1
        obtain ⟨t, e⟩ := PyProof.Rows.IntsAre.int_at hit i v (by rw [Array.getElem?_toList]; exact hv)
        exact ⟨ns[i], t, List.getElem?_eq_getElem hi, by rw [e, List.getD_eq_getElem?_getD, List.getElem?_eq_getElem hi]; rfl⟩
      refine set_update_ints ((Walks.list hh3 _ l hneI items).toS) s.heap.objs.size hSf ns hisz hb hval (items.size - 0) 0 _ (by omega) (Nat.zero_le _) ⟨⟨_, Heap.get?_push_size _ rfl, rfl, rfl⟩, (hl1.push _)⟩ ⟨0, Nat.le_refl 0, setR_new_at (Heap.get?_push_of_some _ hS)⟩ fun s' c' hm hc' hS' => ?_
      obtain ⟨h', g2, d', tk', os'⟩ := s'
      have eg : g2 = s.gens := hm.gens
      have ed : d' = s.drawn := hm.drawn
      have eo : os' = s.os := hm.os
      subst eg; subst ed; subst eo
      show wpAny _ _ _ _ _ _
      refine wpAny_pure ?_
      show wpAny _ _ (ret Value.none) _ _ _
      rw [hisz] at hc'
      refine wpAny_pure ⟨rfl, h', tk', c', rfl, hS', hc', fun b o e => ?_⟩
      have hb0 : b < s.heap.objs.size := Heap.lt_size e
      refine hm.heap b o ?_ (Heap.get?_push_of_some _ (Heap.get?_push_of_some _ e))
      simp only [List.mem_cons, List.not_mem_nil, or_false, not_or]
      exact ⟨Nat.ne_of_lt hb0, by rw [zs]; exact Nat.ne_of_lt (Nat.lt_succ_of_lt hb0)⟩
    · match r₂, hr₂ with
      | .error e, hr₂ => exact hr₂
      | .ok .next, hr₂ => exact hr₂.elim
      | .ok .brk, hr₂ => exact hr₂.elim
      | .ok .cont, hr₂ => exact hr₂.elim
      | .ok (.ret r), hr₂ =>
        obtain ⟨rfl, h', tk, c', rfl, hS', hc', hk'⟩ := hr₂
        repeat (any_goals (first | assumption | wp_step))
        exact h _ _ _ hS' hc' hk'
end
end Gh
end

section
/-! sorted(set(l)); isinstance as a table; defs that give a list of their own. -/
namespace Gh
open PySem PySem.Spec PyProof.Rows L2
section
variable {X : Cx} {C : GC} {Γ : GS} {a b c e tg iter elt : Expr} {es ifs : List Expr} {pos p p2 p3 pos2 spos : Pos} {Φ : PK} {N : GS → Prop} {R : PyData → GS → Prop} {scope : Scope}
def rSetListI (K : PySem.W.Frag) (w : World) : List V → Hp → VK → Prop := fun xs H Q => ∃ (l : Addr) (ns : List Int), xs = [.ref l] ∧ SqL K H l (ns.map V.int) ∧ ns.length ≤ 1000 ∧ ∀ t n, H t = none → n ≤ ns.length → Q (.ref t) (upd H t (SetO w t (fun j => decide (j ∈ ns)) n))
theorem cr_setListI (hc : X.calm = true) : CallR X (.type "set") (rSetListI X.K X.w) := by
  intro pins s σ H xs us Q I r h
  obtain ⟨l, ns, rfl, hl, hn, q⟩ := h
  rw [Vals.ref1 r]
  obtain ⟨its, rv, pl, hz⟩ := I.list hl
  have hf : H s.heap.objs.size = none := I.hok.fresh (Nat.le_refl _)
  refine call_set_lstI (P := X.prog) (w := X.w) ns (I.ok.hd hc) pl.isList (by simpa using ints_of_vals rv) (by unfold scanBound; omega) fun h' tk n R' hle k => ?_
  exact ⟨.ref s.heap.objs.size, _, I.laid (t' := tk) k (Nat.le_refl _) (setO_new R'), rfl, q _ n hf hle⟩
/-- sorted(set(l)), l of ints -/
theorem xm_sortedSet {Ψ : List PyData → GS → Prop} (hc : X.calm = true) (hm : X.mg "sorted" = none) (hm2 : X.mg "set" = none) (h : Xq X C a Γ fun k ds Γ1 => ∃ ns : List Int, k = true ∧ ds = ns.map .int ∧ ns.length < 64 ∧ ∀ ms : List Int, ms.Pairwise (· < ·) → (∀ k, k ∈ ms ↔ k ∈ ns) → Ψ (ms.map .int) Γ1)
    (hg : Gl X "sorted" := by rfl) (hg2 : Gl X "set" := by rfl) (he : starEach [a] X.env = [(false, eval a X.env)] := by rfl) (he2 : starEach [.Call (.Name "set" p2) [a] [] pos2] X.env = [(false, eval (.Call (.Name "set" p2) [a] [] pos2) X.env)] := by rfl) : Xm X C (.Call (.Name "sorted" p) [.Call (.Name "set" p2) [a] [] pos2] [] pos) Γ Ψ :=
  ⟨fun B H σ Rl Q k => wpe_of (pe_callB (cr_sortedSet hc) hg hm (by decide +kernel) (pa_cons (pe_callTy (cr_setListI hc) hg2 hm2 (by decide +kernel) (pa_cons pe_w pa_nil he) (by decide) (by decide) he (by rfl)) pa_nil he2) (by decide) (by decide) he2 (by rfl))
    (h.run B H σ Rl _ fun r vs B1 H1 Γ1 kk ds s1 R1 hd hs ⟨ns, e1, e2, hlt, q⟩ => by
      subst e2
      have ev := dpAll_int hd
      subst ev
      rcases hs with ⟨_, hs⟩ | ⟨e3, hs⟩
      · refine ⟨r, ns, rfl, hs, by omega, fun t n ht hn => ⟨t, _, n, rfl, upd_same, by omega, fun ms t2 hp hmem _ ht2 => ?_⟩⟩
        refine k t2 (ms.map V.int) B1 _ Γ1 (ms.map .int) s1 (R1.alloc ht) ht2 (dpAll_ofInt ms) (q ms hp fun j => ?_)
        rw [hmem j, decide_eq_true_eq]
      · rw [e1] at e3; cases e3)⟩
/-! ### isinstance, as a table -/
def isaT (T t : String) : Bool := t == T || (T == "int" && t == "bool")
def isaD (T : String) (d : PyData) : Bool := isaT T (tyD d)
theorem kitB_tab : ∀ t ∈ ["NoneType", "bool", "int", "str", "list", "tuple"], ∀ T ∈ ["tuple", "list", "bool", "int", "str"], kitB t T = some (isaT T t) := by decide +kernel
theorem xe_isa (T : String) {x : Str} (hm : X.mg "isinstance" = none) (hmT : X.mg x = none) (hT : bootBuiltins x = some (.type T)) (hk : T ∈ ["tuple", "list", "bool", "int", "str"]) (h : Xe X C a Γ fun d Γ1 => (∀ kvs, d ≠ .dict kvs) ∧ Φ (.bool (isaD T d)) Γ1)
    (hg : Gl X "isinstance" := by rfl) (hgT : Gl X x := by rfl) (hdb : (x == ("__debug__" : Str)) = false := by decide) (he : starEach [a, .Name x p2] X.env = (false, eval a X.env) :: starEach [.Name x p2] X.env := by rfl) (he2 : starEach [.Name x p2] X.env = [(false, eval (.Name x p2) X.env)] := by rfl) (hpl : (backTo pos (starEach [.Name x p2] X.env)).any (·.1) = false := by rfl) (hx : x ≠ "__name__" := by decide) :
    Xe X C (.Call (.Name "isinstance" p) [a, .Name x p2] [] pos) Γ Φ :=
  xe_isi (r := true) hm hmT hT (h.mono fun d Γ1 ⟨hd, q⟩ => ⟨isaD T d, by
    refine L2.kit_ty (kitB_tab _ ?_ T hk)
    cases d with
    | dict kvs => exact absurd rfl (hd kvs)
    | _ => simp [tyD], q⟩) hg hgT hx hdb he he2 hpl

/-! ### a name's own list, compared -/
theorem xt_neM (i : Nat) {x : Str} {ds : List PyData} {Ψ : Bool → GS → Prop} (hu : X.A.units + 64 < cLine) (hg : Γ[i]? = some (.lst ds)) (h : Xe X C b Γ fun y Γ2 => Γ2[i]? = some (.lst ds) ∧ SeqAt.shaped (.list ds) = true ∧ SeqAt.shaped y = true ∧ Ψ (!PyData.eqv (.list ds) y) Γ2) (hN : X.N[i]? = some x := by rfl)
    (hv : Vis X.env.scope x := by first | exact Or.inl rfl | exact Or.inr (Or.inl rfl) | exact Or.inr (Or.inr rfl)) (hd : (x == ("__debug__" : Str)) = false := by decide) (hcd : (x == ("__classdict__" : Str)) = false := by decide) : Xt X C (.Compare (.Name x p) [.NotEq] [b] pos) Γ Ψ :=
  ⟨fun B H σ Rl Q k => by
    obtain ⟨q, vs, h1, h2, h3, h4, h5⟩ := Rl.lst hg
    refine wpt_of (pt_cmpR (op_neD hu) (pe_var hN hv hd hcd) pe_w (nomark _)) ⟨_, h1, h.run B H σ Rl _ fun w B1 H1 Γ1 y s1 R1 hdy ⟨q1, q2, q3, q4⟩ => ?_⟩
    obtain ⟨q', ws, e1, e2, e3, e4, e5⟩ := R1.lst q1
    rw [h1] at e1; cases e1
    exact ⟨.list ds, y, .lst (SqL.of e2) (dpAll_mono R1.bh _ _ e5), dp_mono R1.bh _ _ hdy, q2, q3, _, rfl, k _ B1 H1 Γ1 s1 R1 q4⟩⟩

/-! ### defs that give a list of their own -/
def spN (K : PySem.W.Frag) (g : List PyData → (List PyData → Prop) → Prop) : Sp := fun vs H Q _ => ∃ (B : Hp) (ds : List PyData) (Φ : List PyData → Prop), Same B H ∧ DpAll K B vs ds ∧ g ds Φ ∧
  ∀ p ws B' H0 es, Grow B H B' H0 → H0 p = none → DpAll K B' ws es → Φ es → Q (.ref p) (upd H0 p (.lst ws))
/-- a block that ends with a list just made -/
structure Xn (X : Cx) (C : GC) (st : List Stmt) (Γ : GS) (Φ : List PyData → Prop) : Prop where
  run : ∀ (B H : Hp) (σ : L2.St), Rel X.K C B H σ Γ → ∀ D : Ends, (∀ p vs B' H0 σ' Γ' ds, Same B B' → Rel X.K C B' H0 σ' Γ' → H0 p = none → DpAll X.K B' vs ds → Φ ds → D.rt (.ref p) (upd H0 p (.lst vs))) → wpb X st D σ H
theorem xn_cons {st : Stmt} {rest : List Stmt} {Ψ : List PyData → Prop} (h : Xs X C st Γ (fun Γ1 => Xn X C rest Γ1 Ψ) fun _ _ => False) : Xn X C (st :: rest) Γ Ψ :=
  ⟨fun B H σ Rl D k => wpb_of (pss_cons ps_w pb_w) (h.run B H σ Rl _ (fun B1 H1 σ1 Γ1 s1 R1 hx => hx.run B1 H1 σ1 R1 D fun p vs B' H0 σ' Γ' ds s' R' hp hd q => k p vs B' H0 σ' Γ' ds (s1.trans s') R' hp hd q) fun v B1 H1 σ1 Γ1 d s1 R1 hd q => q.elim)⟩
theorem xn_ret {Ψ : List PyData → Prop} (h : Xm X C e Γ fun ds _ => Ψ ds) : Xn X C [.Return (some e) pos] Γ Ψ :=
  ⟨fun B H σ Rl D k => wpb_of (pss_one (ps_ret pe_w)) (h.run B H σ Rl _ fun p vs B1 H0 Γ1 ds s1 R1 hp hd q => k p vs B1 H0 σ Γ1 ds s1 R1 hp hd q)⟩
theorem xm_call {k : Nat} {x : Str} {g : List PyData → (List PyData → Prop) → Prop} {Ψ : List PyData → GS → Prop} (c : Cal X.prog X.w X.K X.mg X.base k x (spN X.K g)) (hr : Room k X.A) (h : Xa X C (e :: es) Γ fun ds Γ1 => g ds fun es => Ψ es Γ1)
    (hg : Gl X x := by rfl) (hdb : (x == ("__debug__" : Str)) = false := by decide) (he : starEach (e :: es) X.env = (false, eval e X.env) :: starEach es X.env := by rfl) (hpl : (backTo pos (starEach es X.env)).any (·.1) = false := by rfl) : Xm X C (.Call (.Name x p) (e :: es) [] pos) Γ Ψ :=
  ⟨fun B H σ R Q kk => by
    obtain ⟨f, fd, ps, F, hm, hk, hb⟩ := c.ex
    refine wpe_of (pe_call F hr hg hm hk hb .nil pass0 pa_w hdb he hpl) (h.run B H σ R _ fun vs B1 H1 Γ1 ds s1 R1 hd q => ?_)
    rw [List.append_nil]
    exact ⟨B1, ds, _, R1.bh, hd, q, fun p ws B' H0 es gr hp hv q' => kk p ws B' H0 Γ1 es (s1.trans gr.b) (gr.rel R1) hp hv q'⟩⟩
end
section
variable {P : Program} {w : World} {K : PySem.W.Frag} {mg : Str → Option Value} {base : Heap}
theorem def_new {x : Str} {st : Stmt} {N ps : List Str} {k : Nat} {g : List PyData → (List PyData → Prop) → Prop} (D : Def K mg x st ps) (S : FnScope N ps (defScope st)) (len : ∀ ds Φ, g ds Φ → ds.length = ps.length)
    (body : ∀ (f : Addr) (cdv : Value) (A : Around) (outer : List Env) (s : Shared) (H B : Hp) (E : XK) (ds : List PyData) (Φ : List PyData → Prop), Room k (A.deeper (PyProof.Rows.envOfC x (defScope st) s.heap.objs.size f cdv)) → g ds Φ →
      Xn (bodyX P w K mg base N x (defScope st) f cdv A outer s H E) ⟨H, B, []⟩ (defBody st) (ds.map .val ++ List.replicate (N.length - ds.length) .no) Φ) : Cal P w K mg base (k + 1) x (spN K g) := by
  obtain ⟨f, fd, F, hm, hb⟩ := D.ex
  have hpl : ps.length ≤ N.length := by
    have := congrArg List.length S.pre
    rw [List.length_take] at this
    omega
  refine ⟨f, fd, ps, F.ok S (fun vs H Q E h => ?_) (fun cdv A outer s H vs Q E hr h => ?_), hm, F.kp, hb⟩
  · obtain ⟨B, ds, Φ, bh, hd, hg, _⟩ := h
    rw [dpAll_len hd, len ds Φ hg]
  · obtain ⟨B, ds, Φ, bh, hd, hg, hq⟩ := h
    refine ⟨wpb (bodyX P w K mg base N x (defScope st) f cdv A outer s H E) (defBody st), pb_w, ?_⟩
    have hl := len ds Φ hg
    exact (body f cdv A outer s H B E ds Φ hr hg).run B H _ (start_rel (K := K) bh hd (by omega)) _ fun p vs B' H0 σ' Γ' es s' R' hp hv q => hq p vs B' H0 es ⟨s', R'.fh, R'.bh, R'.fr⟩ hp hv q
end
end Gh
end

section
/-! Defs that raise an own error, and the try that takes it. -/
namespace Gh
open PySem L2
/-- an own error class over ValueError, without fields of its own -/
structure OwnEx (K : PySem.W.Frag) (mg : Str → Option Value) (x : Str) (Cx : Addr) : Prop where
  g : mg x = some (.ref Cx)
  q : PySem.W.excIn K Cx [.type "ValueError", .type "Exception", .type "BaseException", .type "object"] "ValueError.__new__" = true
  k : PySem.W.keepIn K (.ref Cx) = true
  b : PySem.W.subIn K (.ref Cx) (.type "BaseException") = some true
  t : PySem.W.typeIn K (.ref Cx) = some (.type "type")
  e : PySem.W.exmOne K (.ref Cx) (.ref Cx) = some true
section
variable {K : PySem.W.Frag} {C : GC} {B H B' H' : Hp} {σ σ' : L2.St} {Γ Γ' : GS}
/-- the same frame, told from here -/
abbrev GC.base (C : GC) (B : Hp) : GC := { C with B0 := B }
theorem Rel.rebase (R : Rel K C B H σ Γ) : Rel K (C.base B) B H σ Γ := ⟨R.fh, Same.refl B, R.bh, fun _ _ _ n => n, R.len, R.at_, R.dis, R.pin⟩
theorem Rel.unbase (R : Rel K C B H σ Γ) (R' : Rel K (C.base B) B' H' σ' Γ') : Same B B' ∧ Rel K C B' H' σ' Γ' :=
  ⟨R'.b0, R'.fh, R.b0.trans R'.b0, R'.bh, fun b o f n => R'.fr b o f (R.fr b o f n), R'.len, R'.at_, R'.dis, R'.pin⟩
end
/-- a promise: the def raises the error Cx -/
def spG (K : PySem.W.Frag) (Cx : Addr) (g : List PyData → Prop) : Sp := fun vs H _ E => ∃ (B : Hp) (ds : List PyData), Same B H ∧ DpAll K B vs ds ∧ g ds ∧ ∀ B' H', Grow B H B' H' → E (.ref Cx) none H'
structure CalX (P : Program) (w : World) (K : PySem.W.Frag) (mg : Str → Option Value) (base : Heap) (k : Nat) (x : Str) (sp : Sp) : Prop where
  ex : ∃ (f : Addr) (fd : FuncData) (ps : List Str), FnOk P w K mg base (L2.CX P w) k f fd ps sp ∧ mg x = some (.ref f) ∧ PySem.W.keepIn K (.ref f) = true ∧ Binds K fd ps []
section
variable {X : Cx} {C : GC} {Γ : GS} {a b c e : Expr} {es : List Expr} {pos p p2 pos2 : Pos} {Φ : PK} {N : GS → Prop} {R : PyData → GS → Prop} {W : WX} {Cw : Addr}
theorem xs_raise {x : Str} (hc : X.calm = true) (G : OwnEx X.K X.mg x Cw) (tk : Takes X W) (hW : ∀ B' H' σ' Γ', Rel X.K C B' H' σ' Γ' → W (.ref Cw) none σ' H') (h : Xe X C e Γ fun _ _ => True) (hg : Gl X x := by rfl) (hs : starEach [e] X.env = (false, eval e X.env) :: starEach [] X.env := by rfl) (hdb : (x == ("__debug__" : Str)) = false := by decide) :
    Xs X C (.Raise (some (.Call (.Name x p) [e] [] pos)) none pos2) Γ N R :=
  ⟨fun B H σ Rl D k1 k2 => wps_of (ps_raise hc tk (SkE.pmk_own1 PySem.F.excBase_ValueError G.q G.g G.k (raises_own G.b G.t) hg pe_w hs hdb)) (h.run B H σ Rl _ fun v B1 H1 Γ1 d s1 R1 hd _ => hW B1 H1 σ Γ1 R1)⟩
theorem xe_callX {k : Nat} {x : Str} {g : List PyData → Prop} (c : CalX X.prog X.w X.K X.mg X.base k x (spG X.K Cw g)) (hr : Room k X.A) (tk : Takes X W) (hW : ∀ B' H' σ' Γ', Rel X.K C B' H' σ' Γ' → W (.ref Cw) none σ' H') (h : Xa X C (e :: es) Γ fun ds Γ1 => g ds)
    (hg : Gl X x := by rfl) (hdb : (x == ("__debug__" : Str)) = false := by decide) (he : starEach (e :: es) X.env = (false, eval e X.env) :: starEach es X.env := by rfl) (hpl : (backTo pos (starEach es X.env)).any (·.1) = false := by rfl) : Xe X C (.Call (.Name x p) (e :: es) [] pos) Γ Φ :=
  ⟨fun B H σ Rl Q kk => by
    obtain ⟨f, fd, ps, F, hm, hk, hb⟩ := c.ex
    exact wpe_of (pe_callS F hr hg hm hk hb (fun σ => passAt tk σ) pa_w hdb he hpl) (h.run B H σ Rl _ fun vs B1 H1 Γ1 ds s1 R1 hd q => ⟨B1, ds, R1.bh, hd, q, fun B' H' gr => hW B' H' σ Γ1 (gr.rel R1)⟩)⟩
/-- try: body / except x: suite, where the body raises -/
theorem xs_try {x : Str} {b₀ : Stmt} {body suite : List Stmt} {np pos' : Pos} (G : OwnEx X.K X.mg x Cw) (hs : X.stack = X.env :: X.outer) (hf : X.env.frame = some X.env.locals) (hg : Gl X x)
    (hb : ∀ (B : Hp) (pn : List (Addr × Obj)) (xe : Value → Shared → Prop) (W : WX), Takes (X.tr pn xe) W → (∀ B' H' σ' Γ', Rel X.K (C.base B) B' H' σ' Γ' → W (.ref Cw) none σ' H') → Xb (X.tr pn xe) (C.base B) body Γ N R)
    (hsu : ∀ (a : Addr) (pn : List (Addr × Obj)) (Γ' : GS), Xb (X.suite a pn) C (b₀ :: suite) Γ' N R) (hdb : (x == ("__debug__" : Str)) = false := by decide) :
    Xs X C (.Try body [.ExceptHandler (some (.Name x np)) none (b₀ :: suite) pos'] [] [] pos) Γ N R :=
  ⟨fun B H σ Rl D k1 k2 => wps_of (ps_try_only (c := .ref Cw) (tb := fun W D σ H => ∀ pn xe, Takes (X.tr pn xe) W → wpb (X.tr pn xe) body D σ H) (ts := fun a cls d D σ H => ∀ oe pn, Zc cls d oe → (∃ vs, oe.data = .fields vs) → wpb (X.suite a ((a, oe) :: pn)) (b₀ :: suite) D σ H) hs hf ⟨hg, hdb, .inl G.g⟩ takes0
      (fun W pn xe tk _ => ⟨fun pins s σ2 H2 D2 I h2 => h2 pn xe tk pins s I⟩) (fun a oe cls d pn hz hv => ⟨fun pins s σ2 H2 D2 I h2 => h2 oe pn hz hv pins s I⟩))
    (fun pn xe tk => (hb B pn xe _ tk fun B' H' σ' Γ' R' => ⟨true, G.e, fun _ a ha oe pn2 hz hv => (hsu a _ Γ').run B' H' σ' (Rl.unbase R').2 D (fun B5 H5 σ5 Γ5 s5 R5 q => k1 B5 H5 σ5 Γ5 ((Rl.unbase R').1.trans s5) R5 q) fun v B5 H5 σ5 Γ5 d s5 R5 hd q => k2 v B5 H5 σ5 Γ5 d ((Rl.unbase R').1.trans s5) R5 hd q, fun z => (nomatch z)⟩).run B H σ Rl.rebase D
      (fun B5 H5 σ5 Γ5 s5 R5 q => k1 B5 H5 σ5 Γ5 s5 (Rl.unbase R5).2 q) fun v B5 H5 σ5 Γ5 d s5 R5 hd q => k2 v B5 H5 σ5 Γ5 d s5 (Rl.unbase R5).2 hd q)⟩
/-- try: body / .., where the body does not raise -/
theorem xs_tryNo {h₀ : ExceptHandler} {hs : List ExceptHandler} {body : List Stmt} (h : Xb X.nox C body Γ N R) : Xs X C (.Try body (h₀ :: hs) [] [] pos) Γ N R :=
  ⟨fun B H σ Rl D k1 k2 => wps_of (ps_try_thru0 pb_w) (h.run B H σ Rl D k1 k2)⟩
end
section
variable {P : Program} {w : World} {K : PySem.W.Frag} {mg : Str → Option Value} {base : Heap}
abbrev bodyG (P : Program) (w : World) (K : PySem.W.Frag) (mg : Str → Option Value) (base : Heap) (N : List Str) (qual : Str) (scope : Scope) (f : Addr) (cdv : Value) (A : Around) (outer : List Env) (s : Shared) (H : Hp) (E : XK) : Cx :=
  cxOf (L2.CX P w) P w K mg base N qual scope f cdv A outer s H E
theorem def_gap {x : Str} {st : Stmt} {N ps : List Str} {k : Nat} {Cw : Addr} {g : List PyData → Prop} (D : Def K mg x st ps) (S : FnScope N ps (defScope st)) (len : ∀ ds, g ds → ds.length = ps.length)
    (body : ∀ (f : Addr) (cdv : Value) (A : Around) (outer : List Env) (s : Shared) (H B : Hp) (E : XK) (ds : List PyData) (W : WX), Room k (A.deeper (PyProof.Rows.envOfC x (defScope st) s.heap.objs.size f cdv)) → g ds → Takes (bodyG P w K mg base N x (defScope st) f cdv A outer s H E) W → (∀ B' H' σ' Γ', Rel K ⟨H, B, []⟩ B' H' σ' Γ' → W (.ref Cw) none σ' H') →
      Xb (bodyG P w K mg base N x (defScope st) f cdv A outer s H E) ⟨H, B, []⟩ (defBody st) (ds.map .val ++ List.replicate (N.length - ds.length) .no) (fun _ => False) (fun _ _ => False)) : CalX P w K mg base (k + 1) x (spG K Cw g) := by
  obtain ⟨f, fd, F, hm, hb⟩ := D.ex
  have hpl : ps.length ≤ N.length := by
    have := congrArg List.length S.pre
    rw [List.length_take] at this
    omega
  refine ⟨f, fd, ps, F.okX S (fun vs H Q E h => ?_) (fun cdv A outer s H vs Q E hr h => ?_), hm, F.kp, hb⟩
  · obtain ⟨B, ds, bh, hd, hg, _⟩ := h
    rw [dpAll_len hd, len ds hg]
  · obtain ⟨B, ds, bh, hd, hg, hq⟩ := h
    refine ⟨wpb (bodyG P w K mg base N x (defScope st) f cdv A outer s H E) (defBody st), pb_w, ?_⟩
    have hl := len ds hg
    refine (body f cdv A outer s H B E ds (fun cls d _ H => E cls d H) hr hg (takes_of rfl rfl rfl rfl) fun B' H' σ' Γ' R' => hq B' H' ⟨R'.b0, R'.fh, R'.bh, R'.fr⟩).run B H _ (start_rel (K := K) bh hd (by omega)) _ (fun B' H' σ' Γ' s' R' q => q.elim) fun v B' H' σ' Γ' d s' R' hv q => q.elim
end
end Gh
end

section
/-! The defs of the linked text: their places, names and scopes. -/
namespace W99
open PySem L2 Gh
def top (i : Nat) : Stmt := PySem.Challenge.pw_everyweather_k99_whole_farms_and_weather.main.body.getD i (.Pass ⟨0, 0, 0, 0⟩)
abbrev s_subsets : Stmt := top 5
abbrev n_subsets : List Str := ["items", "found", "item", "row"]
theorem sc_subsets : FnScope n_subsets ["items"] (defScope s_subsets) := ⟨rfl, rfl, rfl, by decide +kernel, rfl, by decide +kernel, by decide +kernel⟩
abbrev s_power : Stmt := top 7
abbrev n_power : List Str := ["curve", "wind", "k", "low", "one", "high", "two"]
theorem sc_power : FnScope n_power ["curve", "wind"] (defScope s_power) := ⟨rfl, rfl, rfl, by decide +kernel, rfl, by decide +kernel, by decide +kernel⟩
abbrev s_is_gap : Stmt := top 9
abbrev n_is_gap : List Str := ["bounds", "i", "j", "hours", "step", "between"]
theorem sc_is_gap : FnScope n_is_gap ["bounds", "i", "j"] (defScope s_is_gap) := ⟨rfl, rfl, rfl, by decide +kernel, rfl, by decide +kernel, by decide +kernel⟩
abbrev s_first_gap : Stmt := top 10
abbrev n_first_gap : List Str := ["bounds", "many", "i", "j"]
theorem sc_first_gap : FnScope n_first_gap ["bounds"] (defScope s_first_gap) := ⟨rfl, rfl, rfl, by decide +kernel, rfl, by decide +kernel, by decide +kernel⟩
abbrev s_swept : Stmt := top 11
abbrev n_swept : List Str := ["hours", "step", "found", "low", "high"]
theorem sc_swept : FnScope n_swept ["hours", "step"] (defScope s_swept) := ⟨rfl, rfl, rfl, by decide +kernel, rfl, by decide +kernel, by decide +kernel⟩
abbrev s_narrowed : Stmt := top 12
abbrev n_narrowed : List Str := ["bounds", "there", "back"]
theorem sc_narrowed : FnScope n_narrowed ["bounds"] (defScope s_narrowed) := ⟨rfl, rfl, rfl, by decide +kernel, rfl, by decide +kernel, by decide +kernel⟩
abbrev s_first_weather : Stmt := top 13
abbrev n_first_weather : List Str := ["bounds", "pairs", "found", "low", "_"]
theorem sc_first_weather : FnScope n_first_weather ["bounds"] (defScope s_first_weather) := ⟨rfl, rfl, rfl, by decide +kernel, rfl, by decide +kernel, by decide +kernel⟩
abbrev s_weather_paper : Stmt := top 14
abbrev n_weather_paper : List Str := ["bounds", "gap"]
theorem sc_weather_paper : FnScope n_weather_paper ["bounds"] (defScope s_weather_paper) := ⟨rfl, rfl, rfl, by decide +kernel, rfl, by decide +kernel, by decide +kernel⟩
abbrev s_weathers : Stmt := top 15
abbrev n_weathers : List Str := ["bounds", "hours", "step", "ways", "wind", "low", "high", "later", "other"]
theorem sc_weathers : FnScope n_weathers ["bounds"] (defScope s_weathers) := ⟨rfl, rfl, rfl, by decide +kernel, rfl, by decide +kernel, by decide +kernel⟩
abbrev s_taken : Stmt := top 18
abbrev n_taken : List Str := ["farm", "case", "machine", "_", "direction", "stopped", "found", "where", "i", "j", "percent"]
theorem sc_taken : FnScope n_taken ["farm", "case", "machine"] (defScope s_taken) := ⟨rfl, rfl, rfl, by decide +kernel, rfl, by decide +kernel, by decide +kernel⟩
abbrev s_winds_at : Stmt := top 19
abbrev n_winds_at : List Str := ["farm", "case", "machine"]
theorem sc_winds_at : FnScope n_winds_at ["farm", "case"] (defScope s_winds_at) := ⟨rfl, rfl, rfl, by decide +kernel, rfl, by decide +kernel, by decide +kernel⟩
abbrev s_outputs : Stmt := top 20
abbrev n_outputs : List Str := ["farm", "case", "winds", "found", "machine"]
theorem sc_outputs : FnScope n_outputs ["farm", "case"] (defScope s_outputs) := ⟨rfl, rfl, rfl, by decide +kernel, rfl, by decide +kernel, by decide +kernel⟩
abbrev s_output : Stmt := top 21
abbrev n_output : List Str := ["farm", "case"]
theorem sc_output : FnScope n_output ["farm", "case"] (defScope s_output) := ⟨rfl, rfl, rfl, by decide +kernel, rfl, by decide +kernel, by decide +kernel⟩
abbrev s_cases : Stmt := top 22
abbrev n_cases : List Str := ["low", "high", "machines", "stops", "sets", "row", "found", "wind", "direction"]
theorem sc_cases : FnScope n_cases ["low", "high", "machines", "stops"] (defScope s_cases) := ⟨rfl, rfl, rfl, by decide +kernel, rfl, by decide +kernel, by decide +kernel⟩
abbrev s_worst_case : Stmt := top 23
abbrev n_worst_case : List Str := ["farm", "low", "high", "stops", "case"]
theorem sc_worst_case : FnScope n_worst_case ["farm", "low", "high", "stops"] (defScope s_worst_case) := ⟨rfl, rfl, rfl, by decide +kernel, rfl, by decide +kernel, by decide +kernel⟩
abbrev s_best_case : Stmt := top 24
abbrev n_best_case : List Str := ["farm", "low", "high", "stops", "least", "case"]
theorem sc_best_case : FnScope n_best_case ["farm", "low", "high", "stops"] (defScope s_best_case) := ⟨rfl, rfl, rfl, by decide +kernel, rfl, by decide +kernel, by decide +kernel⟩
abbrev s_sure_outputs : Stmt := top 25
abbrev n_sure_outputs : List Str := ["farm", "bounds", "stops", "low", "high"]
theorem sc_sure_outputs : FnScope n_sure_outputs ["farm", "bounds", "stops"] (defScope s_sure_outputs) := ⟨rfl, rfl, rfl, by decide +kernel, rfl, by decide +kernel, by decide +kernel⟩
abbrev s_divisor : Stmt := top 27
abbrev n_divisor : List Str := ["a", "b"]
theorem sc_divisor : FnScope n_divisor ["a", "b"] (defScope s_divisor) := ⟨rfl, rfl, rfl, by decide +kernel, rfl, by decide +kernel, by decide +kernel⟩
abbrev s_fraction : Stmt := top 28
abbrev n_fraction : List Str := ["p", "q", "both"]
theorem sc_fraction : FnScope n_fraction ["p", "q"] (defScope s_fraction) := ⟨rfl, rfl, rfl, by decide +kernel, rfl, by decide +kernel, by decide +kernel⟩
abbrev s_gives : Stmt := top 31
abbrev n_gives : List Str := ["farm", "case", "cap", "causes", "curves", "machines", "wakes", "wind", "direction", "stopped", "part", "amount"]
theorem sc_gives : FnScope n_gives ["farm", "case", "cap", "causes"] (defScope s_gives) := ⟨rfl, rfl, rfl, by decide +kernel, rfl, by decide +kernel, by decide +kernel⟩
abbrev s_lost_in_order : Stmt := top 32
abbrev n_lost_in_order : List Str := ["farm", "case", "cap", "order", "found", "k", "before"]
theorem sc_lost_in_order : FnScope n_lost_in_order ["farm", "case", "cap", "order"] (defScope s_lost_in_order) := ⟨rfl, rfl, rfl, by decide +kernel, rfl, by decide +kernel, by decide +kernel⟩
abbrev s_orders : Stmt := top 33
abbrev n_orders : List Str := ["items", "found", "item", "row", "other"]
theorem sc_orders : FnScope n_orders ["items"] (defScope s_orders) := ⟨rfl, rfl, rfl, by decide +kernel, rfl, by decide +kernel, by decide +kernel⟩
abbrev s_fair_losses : Stmt := top 34
abbrev n_fair_losses : List Str := ["farm", "case", "cap", "sums", "cause", "rows", "order", "lost"]
theorem sc_fair_losses : FnScope n_fair_losses ["farm", "case", "cap"] (defScope s_fair_losses) := ⟨rfl, rfl, rfl, by decide +kernel, rfl, by decide +kernel, by decide +kernel⟩
abbrev s_law_same : Stmt := top 36
abbrev n_law_same : List Str := ["actual", "due", "k"]
theorem sc_law_same : FnScope n_law_same ["actual", "due"] (defScope s_law_same) := ⟨rfl, rfl, rfl, by decide +kernel, rfl, by decide +kernel, by decide +kernel⟩
abbrev s_law_pool : Stmt := top 37
abbrev n_law_pool : List Str := ["script", "salt", "cell"]
theorem sc_law_pool : FnScope n_law_pool ["script"] (defScope s_law_pool) := ⟨rfl, rfl, rfl, by decide +kernel, rfl, by decide +kernel, by decide +kernel⟩
abbrev s_law_spread : Stmt := top 38
abbrev n_law_spread : List Str := ["cell", "mixed", "total", "k"]
theorem sc_law_spread : FnScope n_law_spread ["cell"] (defScope s_law_spread) := ⟨rfl, rfl, rfl, by decide +kernel, rfl, by decide +kernel, by decide +kernel⟩
abbrev s_law_draw : Stmt := top 39
abbrev n_law_draw : List Str := ["pool", "many", "cell", "mixed", "value"]
theorem sc_law_draw : FnScope n_law_draw ["pool", "many"] (defScope s_law_draw) := ⟨rfl, rfl, rfl, by decide +kernel, rfl, by decide +kernel, by decide +kernel⟩
abbrev s_law_shuffled : Stmt := top 40
abbrev n_law_shuffled : List Str := ["pool", "rows", "left", "found"]
theorem sc_law_shuffled : FnScope n_law_shuffled ["pool", "rows"] (defScope s_law_shuffled) := ⟨rfl, rfl, rfl, by decide +kernel, rfl, by decide +kernel, by decide +kernel⟩
abbrev s_law_curve : Stmt := top 41
abbrev n_law_curve : List Str := ["pool", "top", "winds", "k", "wind"]
theorem sc_law_curve : FnScope n_law_curve ["pool", "top"] (defScope s_law_curve) := ⟨rfl, rfl, rfl, by decide +kernel, rfl, by decide +kernel, by decide +kernel⟩
abbrev s_law_bounds : Stmt := top 42
abbrev n_law_bounds : List Str := ["pool", "hours", "wide", "rows", "k", "low"]
theorem sc_law_bounds : FnScope n_law_bounds ["pool", "hours", "wide"] (defScope s_law_bounds) := ⟨rfl, rfl, rfl, by decide +kernel, rfl, by decide +kernel, by decide +kernel⟩
abbrev s_law_farm : Stmt := top 43
abbrev n_law_farm : List Str := ["pool", "most", "top", "curves", "k", "many", "wakes", "where", "i", "j"]
theorem sc_law_farm : FnScope n_law_farm ["pool", "most", "top"] (defScope s_law_farm) := ⟨rfl, rfl, rfl, by decide +kernel, rfl, by decide +kernel, by decide +kernel⟩
abbrev s_law_some_case : Stmt := top 44
abbrev n_law_some_case : List Str := ["pool", "many", "k"]
theorem sc_law_some_case : FnScope n_law_some_case ["pool", "many"] (defScope s_law_some_case) := ⟨rfl, rfl, rfl, by decide +kernel, rfl, by decide +kernel, by decide +kernel⟩
abbrev s_law_told_or_none : Stmt := top 45
abbrev n_law_told_or_none : List Str := ["word", "farm", "bounds", "stops"]
theorem sc_law_told_or_none : FnScope n_law_told_or_none ["word", "farm", "bounds", "stops"] (defScope s_law_told_or_none) := ⟨rfl, rfl, rfl, by decide +kernel, rfl, by decide +kernel, by decide +kernel⟩
abbrev s_law_farm_renamed : Stmt := top 46
abbrev n_law_farm_renamed : List Str := ["farm", "names", "kinds", "sides", "curves", "machines", "wakes", "turned", "placed", "curve", "machine", "k", "way", "i", "j", "part"]
theorem sc_law_farm_renamed : FnScope n_law_farm_renamed ["farm", "names", "kinds", "sides"] (defScope s_law_farm_renamed) := ⟨rfl, rfl, rfl, by decide +kernel, rfl, by decide +kernel, by decide +kernel⟩
abbrev s_law : Stmt := top 47
abbrev n_law : List Str := ["script", "pool", "turn", "farm", "many", "names", "kinds", "sides", "other", "wind", "way", "stopped", "case", "there", "k", "told", "seen", "cap", "low", "stops", "high", "bounds", "hours", "step", "back", "mirror", "first", "last", "words", "one", "near", "due"]
theorem sc_law : FnScope n_law ["script"] (defScope s_law) := ⟨rfl, rfl, rfl, by decide +kernel, rfl, by decide +kernel, by decide +kernel⟩
/-- the builtins that no row of the text hides -/
structure Bi (mg : Str → Option Value) : Prop where
  len : mg "len" = none
  max : mg "max" = none
  min : mg "min" = none
  abs : mg "abs" = none
  sum : mg "sum" = none
  sorted : mg "sorted" = none
  tuple : mg "tuple" = none
  list : mg "list" = none
  int : mg "int" = none
  range : mg "range" = none
  zip : mg "zip" = none
  set : mg "set" = none
  isinstance : mg "isinstance" = none
  bool : mg "bool" = none
  str : mg "str" = none

/-! ### the things the program speaks of -/
abbrev Pr := Int × Int
abbrev Wk := Int × Int × Int × Int
structure Farm where
  cs : List (List Pr)
  ms : List Int
  ws : List Wk
structure Case where
  wind : Int
  dir : Int
  off : List Int
abbrev dI (ns : List Int) : List PyData := ns.map .int
abbrev dP (p : Pr) : PyData := .tuple [.int p.1, .int p.2]
abbrev dC (c : List Pr) : PyData := .tuple (c.map dP)
abbrev dW (w : Wk) : PyData := .tuple [.int w.1, .int w.2.1, .int w.2.2.1, .int w.2.2.2]
abbrev dF (f : Farm) : PyData := .tuple [.tuple (f.cs.map dC), .tuple (dI f.ms), .tuple (f.ws.map dW)]
abbrev dK (c : Case) : PyData := .tuple [.int c.wind, .int c.dir, .tuple (dI c.off)]
abbrev dB (b : List Pr) (step : Int) : PyData := .tuple [.tuple (b.map dP), .int step]

/-! ### what the program computes -/
def powerF : List Pr → Int → Int
  | a :: b :: r, w => if a.1 ≤ w ∧ w ≤ b.1 then a.2 + (b.2 - a.2) * (w - a.1) / (b.1 - a.1) else powerF (b :: r) w
  | _, _ => 0
/-- a curve: winds that rise, from 0 to 40 -/
structure CurveOk (c : List Pr) : Prop where
  up : c.Pairwise fun a b => a.1 < b.1
  lo : ∀ p ∈ c, 0 ≤ p.1 ∧ p.1 ≤ 40
  len : c.length ≤ 1000
end W99
end

section
namespace W99
open PySem L2 Gh
variable {P : Program} {w : World} {K : PySem.W.Frag} {mg : Str → Option Value} {base : Heap}
theorem powerF_go {c : List Pr} {w : Int} (i : Nat) (h : ∀ j, j < i → ∀ a b, c[j]? = some a → c[j+1]? = some b → ¬ (a.1 ≤ w ∧ w ≤ b.1)) : powerF c w = powerF (c.drop i) w := by
  induction i generalizing c with
  | zero => simp
  | succ i ih =>
    match c with
    | [] => simp
    | [a] => cases i <;> simp [powerF]
    | a :: b :: r =>
      have h0 := h 0 (by omega) a b rfl rfl
      rw [powerF, if_neg h0, List.drop_succ_cons]
      exact ih fun j hj x y e1 e2 => h (j + 1) (by omega) x y (by simpa using e1) (by simpa using e2)
theorem powerF_at {c : List Pr} {w : Int} {i : Nat} {a b : Pr} (h : ∀ j, j < i → ∀ a b, c[j]? = some a → c[j+1]? = some b → ¬ (a.1 ≤ w ∧ w ≤ b.1)) (ha : c[i]? = some a) (hb : c[i+1]? = some b) (hw : a.1 ≤ w ∧ w ≤ b.1) : powerF c w = a.2 + (b.2 - a.2) * (w - a.1) / (b.1 - a.1) := by
  rw [powerF_go i h]
  have hi : i < c.length := (List.getElem?_eq_some_iff.mp ha).1
  have hi2 : i + 1 < c.length := (List.getElem?_eq_some_iff.mp hb).1
  rw [List.drop_eq_getElem_cons hi, List.drop_eq_getElem_cons hi2]
  rw [List.getElem?_eq_getElem hi] at ha
  rw [List.getElem?_eq_getElem hi2] at hb
  cases ha; cases hb
  rw [powerF, if_pos hw]
theorem powerF_end {c : List Pr} {w : Int} (h : ∀ j, j < c.length - 1 → ∀ a b, c[j]? = some a → c[j+1]? = some b → ¬ (a.1 ≤ w ∧ w ≤ b.1)) : powerF c w = 0 := by
  rw [powerF_go (c.length - 1) h]
  match e : c.drop (c.length - 1) with
  | [] => rfl
  | [a] => rfl
  | a :: b :: r =>
    have := congrArg List.length e
    simp at this
    omega
def g_power (ds : List PyData) (Φ : PyData → Prop) : Prop := ∃ (c : List Pr) (w : Int), ds = [dC c, .int w] ∧ CurveOk c ∧ Φ (.int (powerF c w))
theorem ok_power (D : Def K mg "power" s_power ["curve", "wind"]) (T : Bi mg) : Cal P w K mg base 1 "power" (spP K g_power) := by
  have S := sc_power
  refine def_pure D S (fun ds Φ ⟨_, _, h, _⟩ => by rw [h]; rfl) fun f cdv A outer s H B E ds Φ hr h => ?_
  obtain ⟨c, wd, rfl, hc, hq⟩ := h

  refine xb_cons ?_
  refine xs_for [2] PassesOwn.never rfl ?_
  refine xi_range1 T.range ?_
  refine xe_sub ?_
  refine xe_len T.len ?_
  refine xq_e ?_
  refine xe_var 0 rfl ?_
  refine ⟨_, _, rfl, ?_⟩
  refine xe_int ?_
  refine ⟨_, _, rfl, rfl, ?_⟩
  have hlen := hc.len
  refine ⟨_, rfl, by simp; omega, by simp; omega, ?_⟩
  refine ⟨fun i Γ => (∃ k l o h t, Γ = [.val (dC c), .val (.int wd), k, l, o, h, t] ∧ GE.mu k = false ∧ GE.mu l = false ∧ GE.mu o = false ∧ GE.mu h = false ∧ GE.mu t = false) ∧ ∀ j, j < i → ∀ a b, c[j]? = some a → c[j+1]? = some b → ¬ (a.1 ≤ wd ∧ wd ≤ b.1), ⟨⟨_, _, _, _, _, rfl, rfl, rfl, rfl, rfl, rfl⟩, fun _ h => absurd h (Nat.not_lt_zero _)⟩, fun i Γ2 hi hP => ?_, fun Γ2 hP => ?_⟩
  · obtain ⟨⟨k, l, o, h, t, rfl, m1, m2, m3, m4, m5⟩, hno⟩ := hP
    have hi1 : i + 1 < c.length := by simp at hi; omega
    have ha : c[i]? = some c[i] := List.getElem?_eq_getElem _
    have hb : c[i+1]? = some c[i+1] := List.getElem?_eq_getElem _
    refine xg_name 2 (lq rfl) (fr0 rfl) ?_ S.nd

    refine xb_cons ?_
    refine xs_asgT [3, 4] ?_
    refine xe_ix ?_
    refine xe_var 0 rfl ?_
    refine xe_var 2 rfl ?_
    refine ⟨_, _, _, dP c[i], rfl, rfl, atNM ha rfl, ?_⟩
    refine xg_tup rfl ⟨_, rfl, rfl, ?_⟩
    refine xgs_nm 3 (lq rfl) (fr0 rfl) ?_ S.nd
    refine xgs_nm 4 (lq rfl) (fr0 rfl) ?_ S.nd
    refine xgs_nil ?_

    refine xb_cons ?_
    refine xs_asgT [5, 6] ?_
    refine xe_ix ?_
    refine xe_var 0 rfl ?_
    refine xe_add ?_
    refine xe_var 2 rfl ?_
    refine xe_int ?_
    refine ⟨_, _, rfl, rfl, ?_⟩
    refine ⟨_, _, _, dP c[i+1], rfl, rfl, atNM hb rfl, ?_⟩
    refine xg_tup rfl ⟨_, rfl, rfl, ?_⟩
    refine xgs_nm 5 (lq rfl) (fr0 rfl) ?_ S.nd
    refine xgs_nm 6 (lq rfl) (fr0 rfl) ?_ S.nd
    refine xgs_nil ?_

    refine xb_one ?_
    refine xs_if ?_
    refine xt_chainLe ?_
    refine xe_var 3 rfl ?_
    refine xe_var 1 rfl ?_
    refine ⟨_, _, rfl, rfl, fun hk => ⟨fun z => (nomatch z), fun _ => xb_nil ⟨⟨_, _, _, _, _, rfl, rfl, rfl, rfl, rfl, rfl⟩, fun j hj a b e1 e2 hab => ?_⟩⟩, fun hk => ?_⟩
    · rcases Nat.lt_succ_iff_lt_or_eq.mp hj with h | rfl
      · exact hno j h a b e1 e2 hab
      · rw [ha] at e1; cases e1; exact hk hab.1
    refine xe_var 5 rfl ?_
    refine ⟨_, rfl, ?_⟩
    refine ⟨fun hc' => ?_, fun hc' => ?_⟩
    ·
      refine xb_one ?_
      refine xs_ret ?_
      refine xe_add ?_
      refine xe_var 4 rfl ?_
      refine xe_fdiv ?_
      refine xe_mul ?_
      refine xe_sub ?_
      refine xe_var 6 rfl ?_
      refine xe_var 4 rfl ?_
      refine ⟨_, _, rfl, rfl, ?_⟩
      refine xe_sub ?_
      refine xe_var 1 rfl ?_
      refine xe_var 3 rfl ?_
      refine ⟨_, _, rfl, rfl, ?_⟩
      refine ⟨_, _, rfl, rfl, .inr ?_, ?_⟩
      · have := hc.lo _ (List.getElem_mem (n := i) (by omega : i < c.length)); have := hc.lo _ (List.getElem_mem hi1); simp at hc'; constructor <;> omega
      refine xe_sub ?_
      refine xe_var 5 rfl ?_
      refine xe_var 3 rfl ?_
      refine ⟨_, _, rfl, rfl, ?_⟩
      refine ⟨_, _, rfl, rfl, ?_, ?_⟩
      · have h1 := hc.lo _ (List.getElem_mem (n := i) (by omega : i < c.length)); have h2 := hc.lo _ (List.getElem_mem hi1)
        have h3 := List.pairwise_iff_getElem.mp hc.up i (i + 1) (by omega) hi1 (by omega)
        constructor <;> omega
      refine ⟨_, _, rfl, rfl, ?_⟩
      rw [powerF_at hno ha hb ⟨hk, by simpa using hc'⟩] at hq
      exact hq
    · refine xb_nil ⟨⟨_, _, _, _, _, rfl, rfl, rfl, rfl, rfl, rfl⟩, fun j hj a b e1 e2 hab => ?_⟩
      rcases Nat.lt_succ_iff_lt_or_eq.mp hj with h | rfl
      · exact hno j h a b e1 e2 hab
      · rw [ha] at e1; cases e1; rw [hb] at e2; cases e2; simp at hc'; omega

  obtain ⟨⟨k, l, o, h, t, rfl, m1, m2, m3, m4, m5⟩, hno⟩ := hP
  refine xb_one ?_
  refine xs_ret ?_
  refine xe_int ?_
  rw [powerF_end fun j hj => hno j (by simp; omega)] at hq
  exact hq
end W99
end

section
namespace W99
open PySem L2 Gh
variable {P : Program} {w : World} {K : PySem.W.Frag} {mg : Str → Option Value} {base : Heap}
/-- a join behind a branch -/
theorem xe_val {X : Cx} {C : GC} {e : Expr} {Γ : GS} {Φ : PK} (d0 : PyData) (h : Xe X C e Γ fun d Γ1 => Γ1 = Γ ∧ d = d0) (h2 : Φ d0 Γ) : Xe X C e Γ Φ := h.mono fun d Γ1 ⟨e1, e2⟩ => by rw [e1, e2]; exact h2
theorem xt_eq {X : Cx} {C : GC} {e : Expr} {Γ : GS} {Φ : Bool → GS → Prop} (b0 : Bool) (h : Xt X C e Γ fun d Γ1 => Γ1 = Γ ∧ d = b0) (h2 : Φ b0 Γ) : Xt X C e Γ Φ := h.mono fun d Γ1 ⟨e1, e2⟩ => by rw [e1, e2]; exact h2
theorem xg_eq {X : Cx} {C : GC} {tg : Expr} {vs : List Nat} {d d' : PyData} {Γ : GS} {Φ : GS → Prop} (e : d = d') (h : Xg X C tg vs d' Γ Φ) : Xg X C tg vs d Γ Φ := by rw [e]; exact h
/-! ### the farms -/
structure FarmOk (f : Farm) : Prop where
  cv : ∀ c ∈ f.cs, CurveOk c
  ms : ∀ k ∈ f.ms, 0 ≤ k ∧ k < f.cs.length
  ws : ∀ w ∈ f.ws, 0 ≤ w.2.2.2 ∧ w.2.2.2 ≤ 100
  lm : f.ms.length ≤ 1000
  lw : f.ws.length ≤ 1000
def hitW (c : Case) (m : Int) (w : Wk) : Bool := decide (w.1 = c.dir) && (decide (w.2.2.1 = m) && !decide (w.2.1 ∈ c.off))
def partsF (f : Farm) (c : Case) (m : Int) : List Int := (f.ws.filter (hitW c m)).map (·.2.2.2)
def takenF (f : Farm) (c : Case) (m : Int) : Int := (partsF f c m).foldl max 0
theorem foldl_max (l : List Int) : ∀ a : Int, (l.foldl max a = a ∨ l.foldl max a ∈ l) ∧ a ≤ l.foldl max a ∧ ∀ y ∈ l, y ≤ l.foldl max a := by
  induction l with
  | nil => intro a; exact ⟨.inl rfl, Int.le_refl _, fun _ h => nomatch h⟩
  | cons b l ih =>
    intro a
    obtain ⟨h1, h2, h3⟩ := ih (max a b)
    rw [List.foldl_cons]
    refine ⟨?_, by omega, fun y hy => ?_⟩
    · rcases h1 with h | h
      · rw [h]
        by_cases z : a ≤ b
        · right; rw [show max a b = b by omega]; exact List.mem_cons_self
        · left; omega
      · exact .inr (List.mem_cons_of_mem _ h)
    · rcases List.mem_cons.mp hy with rfl | hy
      · omega
      · exact h3 y hy
theorem max_is {l : List Int} {m : Int} (h : m ∈ (0 : Int) :: l) (hu : ∀ y ∈ (0 : Int) :: l, y ≤ m) : m = l.foldl max 0 := by
  obtain ⟨h1, h2, h3⟩ := foldl_max l 0
  have a1 : m ≤ l.foldl max 0 := by
    rcases List.mem_cons.mp h with rfl | h
    · exact h2
    · exact h3 _ h
  have a2 : l.foldl max 0 ≤ m := by
    rcases h1 with h | h
    · rw [h]; exact hu _ List.mem_cons_self
    · exact hu _ (List.mem_cons_of_mem _ h)
  omega
theorem takenF_lo {f : Farm} (h : FarmOk f) (c : Case) (m : Int) : 0 ≤ takenF f c m ∧ takenF f c m ≤ 100 := by
  obtain ⟨h1, h2, h3⟩ := foldl_max (partsF f c m) 0
  refine ⟨h2, ?_⟩
  rcases h1 with e | e
  · unfold takenF; rw [e]; decide
  · unfold partsF at e
    obtain ⟨w, hw, e⟩ := List.mem_map.mp e
    unfold takenF partsF
    rw [← e]
    exact (h.ws w (List.mem_filter.mp hw).1).2
def g_taken (ds : List PyData) (Φ : PyData → Prop) : Prop := ∃ (fm : Farm) (ca : Case) (m : Int), ds = [dF fm, dK ca, .int m] ∧ FarmOk fm ∧ Φ (.int (takenF fm ca m))
theorem ok_taken (D : Def K mg "taken" s_taken ["farm", "case", "machine"]) (T : Bi mg) : Cal P w K mg base 1 "taken" (spP K g_taken) := by
  have S := sc_taken
  refine def_pure D S (fun ds Φ ⟨_, _, _, h, _⟩ => by rw [h]; rfl) fun f cdv A outer s H B E ds Φ hr h => ?_
  obtain ⟨fm, ca, m, rfl, hf, hq⟩ := h

  refine xb_cons ?_
  refine xs_asgT [3, 4, 5] ?_
  refine xe_var 1 rfl ?_
  refine xg_tup rfl ⟨_, rfl, rfl, ?_⟩
  refine xgs_nm 3 (lq rfl) (fr0 rfl) ?_ S.nd
  refine xgs_nm 4 (lq rfl) (fr0 rfl) ?_ S.nd
  refine xgs_nm 5 (lq rfl) (fr0 rfl) ?_ S.nd
  refine xgs_nil ?_

  refine xb_cons ?_
  refine xs_asgM 6 ?_ S.nd
  refine (xm_lst ?_)
  refine xa_cons ?_
  refine xe_int ?_
  refine xa_nil ?_
  refine ⟨by decide, ?_⟩
  refine ⟨lq rfl, fr0 rfl, ?_⟩

  refine xb_cons ?_
  refine xs_for [7, 8, 9, 10] PassesOwn.never rfl ?_
  refine xi_seq ?_
  refine xe_ix ?_
  refine xe_var 0 rfl ?_
  refine xe_int ?_
  refine ⟨_, _, _, _, rfl, rfl, rfl, ?_⟩
  refine ⟨_, _, rfl, ?_⟩
  rw [List.length_map]
  refine ⟨fun i Γ => ∃ acc a b c d, Γ = [.val (dF fm), .val (dK ca), .val (.int m), .val (.int ca.wind), .val (.int ca.dir), .val (.tuple (dI ca.off)), .lst acc, a, b, c, d] ∧ acc = (dI (0 :: ((fm.ws.take i).filter (hitW ca m)).map (·.2.2.2))), ⟨_, _, _, _, _, rfl, rfl⟩, fun i Γ2 hi hP => ?_, fun Γ2 hP => ?_⟩
  · obtain ⟨acc, _, _, _, _, rfl, ea⟩ := hP
    refine xg_eq (getD_map hi) ?_
    have hlen : acc.length ≤ 1000000 := by
      rw [ea]
      have := List.length_filter_le (hitW ca m) (fm.ws.take i)
      have := hf.lw
      simp at *
      omega
    refine xg_tup rfl ⟨_, rfl, rfl, ?_⟩
    refine xgs_nm 7 (lq rfl) (fr0 rfl) ?_ S.nd
    refine xgs_nm 8 (lq rfl) (fr0 rfl) ?_ S.nd
    refine xgs_nm 9 (lq rfl) (fr0 rfl) ?_ S.nd
    refine xgs_nm 10 (lq rfl) (fr0 rfl) ?_ S.nd
    refine xgs_nil ?_

    refine xb_one ?_
    refine xs_if ?_
    refine xt_eq (hitW ca m fm.ws[i]) ?_ ?_
    · unfold hitW
      refine xt_w ?_
      refine xw_and ?_
      refine xt_eqI ?_
      refine xe_var 7 rfl ?_
      refine xe_var 4 rfl ?_
      refine ⟨_, _, rfl, rfl, ?_⟩
      refine ⟨fun hk => ⟨rfl, by rw [hk]; rfl⟩, fun hk => ?_⟩
      rw [hk, Bool.true_and]
      refine xw_and ?_
      refine xt_eqI ?_
      refine xe_var 9 rfl ?_
      refine xe_var 2 rfl ?_
      refine ⟨_, _, rfl, rfl, ?_⟩
      refine ⟨fun hk => ⟨rfl, by rw [hk]; rfl⟩, fun hk => ?_⟩
      rw [hk, Bool.true_and]
      refine xw_and1 ?_
      refine xt_notinI ?_
      refine xe_var 8 rfl ?_
      refine xq_e ?_
      refine xe_var 5 rfl ?_
      refine ⟨_, _, rfl, ?_⟩
      exact ⟨_, _, rfl, rfl, rfl, rfl⟩
    refine ⟨fun hc => ?_, fun hc => ?_⟩
    ·
      refine xb_one ?_
      refine xs_append 6 ?_
      refine xe_var 10 rfl ?_
      refine ⟨_, rfl, hlen, ?_⟩
      refine ⟨_, _, _, _, _, rfl, ?_⟩
      rw [take_one hi, ea]
      simp [hc, -List.take_append_getElem]
    · refine xb_nil ?_
      refine ⟨_, _, _, _, _, rfl, ?_⟩
      rw [take_one hi, ea]
      simp [hc, -List.take_append_getElem]

  obtain ⟨acc, _, _, _, _, rfl, ea⟩ := hP
  refine xb_one ?_
  refine xs_ret ?_
  refine xe_maxL rfl T.max ?_
  refine xq_m 6 rfl ?_
  rw [List.take_length] at ea
  refine ⟨_, rfl, ea, by simp, fun x h1 h2 => ?_⟩
  rw [max_is h1 h2]
  exact hq
end W99
end

section
namespace W99
open PySem L2 Gh
variable {P : Program} {w : World} {K : PySem.W.Frag} {mg : Str → Option Value} {base : Heap}
theorem nomu {Γ : GS} {vs : List Nat} (h : (vs.all fun i => !((Γ[i]?).map GE.mu).getD false) = true := by rfl) : NoMu Γ vs := fun i hi g hg => by
  have := List.all_eq_true.mp h i hi
  rw [hg] at this
  simpa using this
theorem filter_all {α : Type} (xs : List α) : xs.filter (fun _ => true) = xs := List.filter_eq_self.mpr fun _ _ => rfl
def windF (f : Farm) (c : Case) (m : Nat) : Int := c.wind * (100 - takenF f c m) / 100
def windsF (f : Farm) (c : Case) : List Int := (List.range f.ms.length).map (windF f c)
def outAt (f : Farm) (c : Case) (m : Nat) : Int := if (m : Int) ∈ c.off then 0 else powerF (f.cs.getD (f.ms.getD m 0).toNat []) (windF f c m)
def outsF (f : Farm) (c : Case) : List Int := (List.range f.ms.length).map (outAt f c)
def outF (f : Farm) (c : Case) : Int := (outsF f c).sum
def g_winds_at (ds : List PyData) (Φ : PyData → Prop) : Prop := ∃ (fm : Farm) (ca : Case), ds = [dF fm, dK ca] ∧ FarmOk fm ∧ Φ (.list (dI (windsF fm ca)))
theorem ok_winds_at (D : Def K mg "winds_at" s_winds_at ["farm", "case"]) (T : Bi mg) (c_taken : Cal P w K mg base 1 "taken" (spP K g_taken)) : Cal P w K mg base 2 "winds_at" (spP K g_winds_at) := by
  have S := sc_winds_at
  refine def_pure D S (fun ds Φ ⟨_, _, h, _⟩ => by rw [h]; rfl) fun f cdv A outer s H B E ds Φ hr h => ?_
  obtain ⟨fm, ca, rfl, hf, hq⟩ := h
  have hlm := hf.lm
  refine xb_one ?_
  refine xs_ret ?_
  refine xe_m ?_
  refine xm_lc [("machine", 2)] rfl S.nd (blkOk_by rfl) (fun _ h => nomatch h) (lc_pure ?_)
  refine xi_range1 T.range ?_
  refine xe_len T.len ?_
  refine xq_e ?_
  refine xe_ix ?_
  refine xe_var 0 rfl ?_
  refine xe_int ?_
  refine ⟨_, _, _, _, rfl, rfl, rfl, ?_⟩
  refine ⟨_, _, rfl, ?_⟩
  rw [List.length_map]
  refine ⟨_, rfl, by omega, by omega, by omega, fun _ => true, fun i => .int (windF fm ca i), fun i hi => ?turn, ?_⟩
  case turn =>
    refine ⟨nomu, fun s1 H1 Ca cl fp C' hC => ?_⟩
    refine xg_name 2 (lq rfl) (fr0 hC) ?_ S.nd
    intro s1 H1 Ca cl fp
    refine xts_nil ?_
    refine ⟨fun hk => (nomatch hk), fun hk s1 H1 Ca cl fp => ?_⟩
    refine xe_fdiv ?_
    refine xe_mul ?_
    refine xe_ix ?_
    refine xe_var 1 rfl ?_
    refine xe_int ?_
    refine ⟨_, _, _, _, rfl, rfl, rfl, ?_⟩
    refine xe_sub ?_
    refine xe_int ?_
    refine xe_call c_taken (hr.mono (by decide)) ?_
    refine xa_cons ?_
    refine xe_var 0 rfl ?_
    refine xa_cons ?_
    refine xe_var 1 rfl ?_
    refine xa_cons ?_
    refine xe_var 2 rfl ?_
    refine xa_nil ?_
    refine ⟨_, _, _, rfl, hf, ?_⟩
    refine ⟨_, _, rfl, rfl, ?_⟩
    have ht := takenF_lo hf ca i
    refine ⟨_, _, rfl, rfl, .inr (by omega), ?_⟩
    refine xe_int ?_
    refine ⟨_, _, rfl, rfl, ⟨by decide, by decide⟩, ?_⟩
    exact ⟨rfl, rfl, rfl⟩
  rw [filter_all]
  rw [windsF, dI, List.map_map] at hq
  exact hq
def g_outputs (ds : List PyData) (Φ : PyData → Prop) : Prop := ∃ (fm : Farm) (ca : Case), ds = [dF fm, dK ca] ∧ FarmOk fm ∧ Φ (.list (dI (outsF fm ca)))
theorem getElem?_getD {α : Type} {xs : List α} {i : Nat} (d : α) (h : i < xs.length) : xs[i]? = some (xs.getD i d) := by simp [List.getD_eq_getElem?_getD, h]
theorem ok_outputs (D : Def K mg "outputs" s_outputs ["farm", "case"]) (T : Bi mg) (c_power : Cal P w K mg base 1 "power" (spP K g_power)) (c_winds_at : Cal P w K mg base 2 "winds_at" (spP K g_winds_at)) : Cal P w K mg base 3 "outputs" (spP K g_outputs) := by
  have S := sc_outputs
  refine def_pure D S (fun ds Φ ⟨_, _, h, _⟩ => by rw [h]; rfl) fun f cdv A outer s H B E ds Φ hr h => ?_
  obtain ⟨fm, ca, rfl, hf, hq⟩ := h
  have hlm := hf.lm

  refine xb_cons ?_
  refine xs_asg 2 ?_ S.nd
  refine xe_call c_winds_at (hr.mono (by decide)) ?_
  refine xa_cons ?_
  refine xe_var 0 rfl ?_
  refine xa_cons ?_
  refine xe_var 1 rfl ?_
  refine xa_nil ?_
  refine ⟨_, _, rfl, hf, ?_⟩
  refine ⟨lq rfl, fr0 rfl, ?_⟩

  refine xb_cons ?_
  refine xs_asgM 3 ?_ S.nd
  refine (xm_lst ?_)
  refine xa_nil ?_
  refine ⟨by decide, ?_⟩
  refine ⟨lq rfl, fr0 rfl, ?_⟩

  refine xb_cons ?_
  refine xs_for [4] PassesOwn.never rfl ?_
  refine xi_range1 T.range ?_
  refine xe_len T.len ?_
  refine xq_e ?_
  refine xe_ix ?_
  refine xe_var 0 rfl ?_
  refine xe_int ?_
  refine ⟨_, _, _, _, rfl, rfl, rfl, ?_⟩
  refine ⟨_, _, rfl, ?_⟩
  rw [List.length_map]
  refine ⟨_, rfl, by omega, by omega, ?_⟩
  refine ⟨fun i Γ => ∃ acc a, Γ = [.val (dF fm), .val (dK ca), .val (.list (dI (windsF fm ca))), .lst acc, a] ∧ acc = dI ((List.range i).map (outAt fm ca)), ⟨_, _, rfl, rfl⟩, fun i Γ2 hi hP => ?_, fun Γ2 hP => ?_⟩
  · obtain ⟨acc, _, rfl, ea⟩ := hP
    have hi : i < fm.ms.length := by omega
    refine xg_name 4 (lq rfl) (fr0 rfl) ?_ S.nd

    refine xb_one ?_
    refine xs_append 3 ?_
    refine xe_val (.int (outAt fm ca i)) ?_ ?_
    · unfold outAt
      refine xe_if ?_
      refine xt_inI ?_
      refine xe_var 4 rfl ?_
      refine xq_e ?_
      refine xe_ix ?_
      refine xe_var 1 rfl ?_
      refine xe_int ?_
      refine ⟨_, _, _, _, rfl, rfl, rfl, ?_⟩
      refine ⟨_, _, rfl, ?_⟩
      refine ⟨_, _, rfl, rfl, ?_⟩
      refine ⟨fun hc => ?_, fun hc => ?_⟩
      · refine xe_int ⟨rfl, ?_⟩
        rw [if_pos (by simpa using hc)]
      · rw [if_neg (by simpa using hc)]
        have hm := hf.ms _ (List.getElem_mem hi)
        have hk : fm.ms[i].toNat < fm.cs.length := by omega
        refine xe_call c_power (hr.mono (by decide)) ?_
        refine xa_cons ?_
        refine xe_ix ?_
        refine xe_ix ?_
        refine xe_var 0 rfl ?_
        refine xe_int ?_
        refine ⟨_, _, _, _, rfl, rfl, rfl, ?_⟩
        refine xe_ix ?_
        refine xe_ix ?_
        refine xe_var 0 rfl ?_
        refine xe_int ?_
        refine ⟨_, _, _, _, rfl, rfl, rfl, ?_⟩
        refine xe_var 4 rfl ?_
        refine ⟨_, _, _, _, rfl, rfl, atNM (getElem?_getD 0 hi) rfl, ?_⟩
        have e1 : fm.ms.getD i 0 = fm.ms[i] := by simp [List.getD_eq_getElem?_getD, hi]
        refine ⟨_, _, _, _, rfl, rfl, atNM (getElem?_getD (i := (fm.ms.getD i 0).toNat) [] (by rw [e1]; exact hk)) (by rw [e1]; omega), ?_⟩
        refine xa_cons ?_
        refine xe_ix ?_
        refine xe_var 2 rfl ?_
        refine xe_var 4 rfl ?_
        refine ⟨_, _, _, _, rfl, rfl, atNM (a := windF fm ca i) (by simp [windsF, hi]) rfl, ?_⟩
        refine xa_nil ?_
        refine ⟨_, _, rfl, hf.cv _ ?_, ⟨rfl, rfl⟩⟩
        rw [e1]
        have : fm.cs.getD fm.ms[i].toNat [] = fm.cs[fm.ms[i].toNat] := by simp [List.getD_eq_getElem?_getD, hk]
        rw [this]
        exact List.getElem_mem hk
    refine ⟨_, rfl, by rw [ea]; simp; omega, ?_⟩
    refine ⟨_, _, rfl, ?_⟩
    rw [ea, List.range_succ, dI, dI]
    simp

  obtain ⟨acc, _, rfl, ea⟩ := hP
  refine xb_one ?_
  refine xs_ret ?_
  refine xe_frz 3 rfl (fun _ h => nomatch h) ?_
  rw [ea, show ((fm.ms.length : Int).toNat) = fm.ms.length by omega]
  exact hq
def g_output (ds : List PyData) (Φ : PyData → Prop) : Prop := ∃ (fm : Farm) (ca : Case), ds = [dF fm, dK ca] ∧ FarmOk fm ∧ Φ (.int (outF fm ca))
theorem ok_output (D : Def K mg "output" s_output ["farm", "case"]) (T : Bi mg) (c_outputs : Cal P w K mg base 3 "outputs" (spP K g_outputs)) : Cal P w K mg base 4 "output" (spP K g_output) := by
  have S := sc_output
  refine def_pure D S (fun ds Φ ⟨_, _, h, _⟩ => by rw [h]; rfl) fun f cdv A outer s H B E ds Φ hr h => ?_
  obtain ⟨fm, ca, rfl, hf, hq⟩ := h

  refine xb_one ?_
  refine xs_ret ?_
  refine xe_sum rfl T.sum ?_
  refine xq_e ?_
  refine xe_call c_outputs (hr.mono (by decide)) ?_
  refine xa_cons ?_
  refine xe_var 0 rfl ?_
  refine xa_cons ?_
  refine xe_var 1 rfl ?_
  refine xa_nil ?_
  refine ⟨_, _, rfl, hf, ?_⟩
  refine ⟨_, _, rfl, ?_⟩
  exact ⟨_, rfl, rfl, hq⟩
end W99
end

section
namespace W99
open PySem L2 Gh
variable {P : Program} {w : World} {K : PySem.W.Frag} {mg : Str → Option Value} {base : Heap}
theorem cutD_take (xs : List PyData) {i : Nat} {k : Int} (e : k = (i : Int)) (h : i ≤ xs.length) : cutD xs none (some k) = xs.take i := by
  subst e
  unfold cutD
  rw [HT.sIx_none, HT.sIx_nat, List.drop_zero]
  congr 1
  omega
def partF (f : Farm) (os : List Str) : Farm := { f with ws := if ("wake" : Str) ∈ os then f.ws else [] }
def caseF (c : Case) (os : List Str) : Case := { c with off := if ("stop" : Str) ∈ os then c.off else [] }
def givesF (f : Farm) (c : Case) (cap : Int) (os : List Str) : Int := if ("cap" : Str) ∈ os then min (outF (partF f os) (caseF c os)) cap else outF (partF f os) (caseF c os)
theorem partF_ok {f : Farm} (h : FarmOk f) (os : List Str) : FarmOk (partF f os) where
  cv := h.cv
  ms := h.ms
  ws := fun w hw => by
    unfold partF at hw
    by_cases z : ("wake" : Str) ∈ os
    · rw [if_pos z] at hw; exact h.ws w hw
    · rw [if_neg z] at hw; cases hw
  lm := h.lm
  lw := by
    unfold partF
    have := h.lw
    by_cases z : ("wake" : Str) ∈ os
    · simp [z]; exact this
    · simp [z]
abbrev dS (os : List Str) : List PyData := os.map .str
def g_gives (ds : List PyData) (Φ : PyData → Prop) : Prop := ∃ (fm : Farm) (ca : Case) (cap : Int) (os : List Str), ds = [dF fm, dK ca, .int cap, .tuple (dS os)] ∧ FarmOk fm ∧ Φ (.int (givesF fm ca cap os))
theorem ok_gives (D : Def K mg "gives" s_gives ["farm", "case", "cap", "causes"]) (T : Bi mg) (c_output : Cal P w K mg base 4 "output" (spP K g_output)) : Cal P w K mg base 5 "gives" (spP K g_gives) := by
  have S := sc_gives
  refine def_pure D S (fun ds Φ ⟨_, _, _, _, h, _⟩ => by rw [h]; rfl) fun f cdv A outer s H B E ds Φ hr h => ?_
  obtain ⟨fm, ca, cap, os, rfl, hf, hq⟩ := h

  refine xb_cons ?_
  refine xs_asgT [4, 5, 6] ?_
  refine xe_var 0 rfl ?_
  refine xg_tup rfl ⟨_, rfl, rfl, ?_⟩
  refine xgs_nm 4 (lq rfl) (fr0 rfl) ?_ S.nd
  refine xgs_nm 5 (lq rfl) (fr0 rfl) ?_ S.nd
  refine xgs_nm 6 (lq rfl) (fr0 rfl) ?_ S.nd
  refine xgs_nil ?_

  refine xb_cons ?_
  refine xs_asgT [7, 8, 9] ?_
  refine xe_var 1 rfl ?_
  refine xg_tup rfl ⟨_, rfl, rfl, ?_⟩
  refine xgs_nm 7 (lq rfl) (fr0 rfl) ?_ S.nd
  refine xgs_nm 8 (lq rfl) (fr0 rfl) ?_ S.nd
  refine xgs_nm 9 (lq rfl) (fr0 rfl) ?_ S.nd
  refine xgs_nil ?_

  refine xb_cons ?_
  refine xs_asg 10 ?_ S.nd
  refine xe_tup ?_
  refine xa_cons ?_
  refine xe_var 4 rfl ?_
  refine xa_cons ?_
  refine xe_var 5 rfl ?_
  refine xa_cons ?_
  refine xe_val (.tuple ((partF fm os).ws.map dW)) ?_ ?_
  · unfold partF
    refine xe_if ?_
    refine xt_inS ?_
    refine xe_str ?_
    refine xq_e ?_
    refine xe_var 3 rfl ?_
    refine ⟨_, _, rfl, ?_⟩
    refine ⟨_, _, rfl, rfl, ?_⟩
    refine ⟨fun hc => ?_, fun hc => ?_⟩
    · refine xe_var 6 rfl ⟨rfl, ?_⟩
      rw [if_pos (by simpa using hc)]
    · refine xe_tup ?_
      refine xa_nil ?_
      refine ⟨by decide, rfl, ?_⟩
      rw [if_neg (by simpa using hc)]
      rfl
  refine xa_nil ?_
  refine ⟨by simp, ?_⟩
  refine ⟨lq rfl, fr0 rfl, ?_⟩

  refine xb_cons ?_
  refine xs_asg 11 ?_ S.nd
  refine xe_call c_output (hr.mono (by decide)) ?_
  refine xa_cons ?_
  refine xe_var 10 rfl ?_
  refine xa_cons ?_
  refine xe_tup ?_
  refine xa_cons ?_
  refine xe_var 7 rfl ?_
  refine xa_cons ?_
  refine xe_var 8 rfl ?_
  refine xa_cons ?_
  refine xe_val (.tuple (dI (caseF ca os).off)) ?_ ?_
  · unfold caseF
    refine xe_if ?_
    refine xt_inS ?_
    refine xe_str ?_
    refine xq_e ?_
    refine xe_var 3 rfl ?_
    refine ⟨_, _, rfl, ?_⟩
    refine ⟨_, _, rfl, rfl, ?_⟩
    refine ⟨fun hc => ?_, fun hc => ?_⟩
    · refine xe_var 9 rfl ⟨rfl, ?_⟩
      rw [if_pos (by simpa using hc)]
    · refine xe_tup ?_
      refine xa_nil ?_
      refine ⟨by decide, rfl, ?_⟩
      rw [if_neg (by simpa using hc)]
      rfl
  refine xa_nil ?_
  refine ⟨by simp, ?_⟩
  refine xa_nil ?_
  refine ⟨partF fm os, caseF ca os, rfl, partF_ok hf os, ?_⟩
  refine ⟨lq rfl, fr0 rfl, ?_⟩

  refine xb_one ?_
  refine xs_ret ?_
  unfold givesF at hq
  refine xe_if ?_
  refine xt_inS ?_
  refine xe_str ?_
  refine xq_e ?_
  refine xe_var 3 rfl ?_
  refine ⟨_, _, rfl, ?_⟩
  refine ⟨_, _, rfl, rfl, ?_⟩
  refine ⟨fun hc => ?_, fun hc => ?_⟩
  · refine xe_min2 rfl T.min ?_
    refine xa_cons ?_
    refine xe_var 11 rfl ?_
    refine xa_cons ?_
    refine xe_var 2 rfl ?_
    refine xa_nil ?_
    refine ⟨_, _, rfl, ?_⟩
    rw [if_pos (by simpa using hc)] at hq
    exact hq
  · refine xe_var 11 rfl ?_
    rw [if_neg (by simpa using hc)] at hq
    exact hq
def lostAt (G : List Str → Int) (os : List Str) (k : Nat) : Int := G (os.take k) - G (os.take (k + 1))
def lostF (G : List Str → Int) (os : List Str) : List Int := (List.range os.length).map (lostAt G os)
def g_lost_in_order (ds : List PyData) (Φ : PyData → Prop) : Prop := ∃ (fm : Farm) (ca : Case) (cap : Int) (os : List Str), ds = [dF fm, dK ca, .int cap, .tuple (dS os)] ∧ FarmOk fm ∧ os.length ≤ 1000 ∧ Φ (.list (dI (lostF (givesF fm ca cap) os)))
theorem ok_lost_in_order (D : Def K mg "lost_in_order" s_lost_in_order ["farm", "case", "cap", "order"]) (T : Bi mg) (c_gives : Cal P w K mg base 5 "gives" (spP K g_gives)) : Cal P w K mg base 6 "lost_in_order" (spP K g_lost_in_order) := by
  have S := sc_lost_in_order
  refine def_pure D S (fun ds Φ ⟨_, _, _, _, h, _⟩ => by rw [h]; rfl) fun f cdv A outer s H B E ds Φ hr h => ?_
  obtain ⟨fm, ca, cap, os, rfl, hf, hl, hq⟩ := h

  refine xb_cons ?_
  refine xs_asgM 4 ?_ S.nd
  refine (xm_lst ?_)
  refine xa_nil ?_
  refine ⟨by decide, ?_⟩
  refine ⟨lq rfl, fr0 rfl, ?_⟩

  refine xb_cons ?_
  refine xs_for [5] PassesOwn.never rfl ?_
  refine xi_range1 T.range ?_
  refine xe_len T.len ?_
  refine xq_e ?_
  refine xe_var 3 rfl ?_
  refine ⟨_, _, rfl, ?_⟩
  rw [List.length_map]
  refine ⟨_, rfl, by omega, by omega, ?_⟩
  refine ⟨fun i Γ => ∃ acc a b, Γ = [.val (dF fm), .val (dK ca), .val (.int cap), .val (.tuple (dS os)), .lst acc, a, b] ∧ acc = dI ((List.range i).map (lostAt (givesF fm ca cap) os)), ⟨_, _, _, rfl, rfl⟩, fun i Γ2 hi hP => ?_, fun Γ2 hP => ?_⟩
  · obtain ⟨acc, _, _, rfl, ea⟩ := hP
    have hi : i < os.length := by omega
    refine xg_name 5 (lq rfl) (fr0 rfl) ?_ S.nd

    refine xb_cons ?_
    refine xs_asg 6 ?_ S.nd
    refine xe_call c_gives (hr.mono (by decide)) ?_
    refine xa_cons ?_
    refine xe_var 0 rfl ?_
    refine xa_cons ?_
    refine xe_var 1 rfl ?_
    refine xa_cons ?_
    refine xe_var 2 rfl ?_
    refine xa_cons ?_
    refine xe_slT ?_
    refine xe_var 3 rfl ?_
    refine xo_none ?_
    refine xo_some ?_
    refine xe_var 5 rfl ?_
    refine ⟨_, rfl, ?_⟩
    refine ⟨_, rfl, ?_⟩
    refine xa_nil ?_
    rw [cutD_take (i := i) _ rfl (by simp; omega), ← List.map_take]
    refine ⟨fm, ca, cap, os.take i, rfl, hf, ?_⟩
    refine ⟨lq rfl, fr0 rfl, ?_⟩

    refine xb_one ?_
    refine xs_append 4 ?_
    refine xe_sub ?_
    refine xe_var 6 rfl ?_
    refine xe_call c_gives (hr.mono (by decide)) ?_
    refine xa_cons ?_
    refine xe_var 0 rfl ?_
    refine xa_cons ?_
    refine xe_var 1 rfl ?_
    refine xa_cons ?_
    refine xe_var 2 rfl ?_
    refine xa_cons ?_
    refine xe_slT ?_
    refine xe_var 3 rfl ?_
    refine xo_none ?_
    refine xo_some ?_
    refine xe_add ?_
    refine xe_var 5 rfl ?_
    refine xe_int ?_
    refine ⟨_, _, rfl, rfl, ?_⟩
    refine ⟨_, rfl, ?_⟩
    refine ⟨_, rfl, ?_⟩
    refine xa_nil ?_
    rw [cutD_take (i := i + 1) (k := (i : Int) + 1) _ rfl (by simp; omega), ← List.map_take]
    refine ⟨fm, ca, cap, os.take (i + 1), rfl, hf, ?_⟩
    refine ⟨_, _, rfl, rfl, ?_⟩
    refine ⟨_, rfl, by rw [ea]; simp; omega, ?_⟩
    refine ⟨_, _, _, rfl, ?_⟩
    rw [ea, List.range_succ, dI, dI]
    simp [lostAt]

  obtain ⟨acc, _, _, rfl, ea⟩ := hP
  refine xb_one ?_
  refine xs_ret ?_
  refine xe_frz 4 rfl (fun _ h => nomatch h) ?_
  rw [ea, show ((os.length : Int).toNat) = os.length by omega]
  exact hq
/-! ### fractions -/
def g_divisor (ds : List PyData) (Φ : PyData → Prop) : Prop := ∃ (a b : Int), ds = [.int a, .int b] ∧ 0 ≤ b ∧ Φ (.int (Int.gcd a b))
theorem gcd_step (a b : Int) : Int.gcd b (a % b) = Int.gcd a b := by
  rw [Int.gcd_comm a b]
  rw [Int.emod_def, Int.gcd_sub_mul_left_right]
theorem ok_divisor (D : Def K mg "divisor" s_divisor ["a", "b"]) (T : Bi mg) : Cal P w K mg base 1 "divisor" (spP K g_divisor) := by
  have S := sc_divisor
  refine def_pure D S (fun ds Φ ⟨_, _, h, _⟩ => by rw [h]; rfl) fun f cdv A outer s H B E ds Φ hr h => ?_
  obtain ⟨a, b, rfl, hb, hq⟩ := h

  refine xb_cons ?_
  refine xs_while PassesOwn.never (fun m Γ => ∃ x y : Int, Γ = [.val (.int x), .val (.int y)] ∧ 0 ≤ y ∧ m = y.toNat ∧ Int.gcd x y = Int.gcd a b) _ ⟨a, b, rfl, hb, rfl, rfl⟩ fun m Γ1 hW => ?_
  obtain ⟨x, y, rfl, hy, rfl, hg⟩ := hW
  refine xt_neI ?_
  refine xe_var 1 rfl ?_
  refine xe_int ?_
  refine ⟨_, _, rfl, rfl, ?_⟩
  refine ⟨fun hc => ?_, fun hc => ?_⟩
  ·
    have hc : y ≠ 0 := by simpa using hc
    have h1 := Int.emod_nonneg x hc
    have h2 := Int.emod_lt_of_pos x (by omega : 0 < y)
    refine xb_one ?_
    refine xs_par 0 1 rfl ?_ S.nd
    refine xa_cons ?_
    refine xe_var 1 rfl ?_
    refine xa_cons ?_
    refine xe_mod ?_
    refine xe_var 0 rfl ?_
    refine xe_var 1 rfl ?_
    refine ⟨_, _, rfl, rfl, by omega, ?_⟩
    refine xa_nil ?_
    refine ⟨_, _, rfl, lq rfl, lq rfl, fr0 rfl, fr0 rfl, ?_⟩
    exact ⟨_, by omega, _, _, rfl, h1, rfl, by rw [gcd_step]; exact hg⟩

  have hc : y = 0 := by simpa using hc
  subst hc
  refine xb_one ?_
  refine xs_ret ?_
  refine xe_abs T.abs ?_
  refine xe_var 0 rfl ?_
  refine ⟨_, rfl, ?_⟩
  rw [Int.gcd_zero_right] at hg
  rw [hg]
  exact hq
def g_fraction (ds : List PyData) (Φ : PyData → Prop) : Prop := ∃ (p q : Int), ds = [.int p, .int q] ∧ 0 < q ∧ q < 1000000 ∧ Φ (dP (p / Int.gcd p q, q / Int.gcd p q))
theorem ok_fraction (D : Def K mg "fraction" s_fraction ["p", "q"]) (T : Bi mg) (c_divisor : Cal P w K mg base 1 "divisor" (spP K g_divisor)) : Cal P w K mg base 2 "fraction" (spP K g_fraction) := by
  have S := sc_fraction
  refine def_pure D S (fun ds Φ ⟨_, _, h, _⟩ => by rw [h]; rfl) fun f cdv A outer s H B E ds Φ hr h => ?_
  obtain ⟨p, q, rfl, hq0, hq1, hq⟩ := h

  refine xb_cons ?_
  refine xs_if ?_
  refine xt_eqI ?_
  refine xe_var 1 rfl ?_
  refine xe_int ?_
  refine ⟨_, _, rfl, rfl, ?_⟩
  refine ⟨fun hc => ?_, fun hc => ?_⟩
  · exact absurd (show q = 0 by simpa using hc) (by omega)
  refine xb_nil ?_

  refine xb_cons ?_
  refine xs_asg 2 ?_ S.nd
  refine xe_if ?_
  refine xt_gt ?_
  refine xe_var 1 rfl ?_
  refine xe_int ?_
  refine ⟨_, _, rfl, rfl, ?_⟩
  refine ⟨fun hc => ?_, fun hc => ?_⟩
  rotate_left
  · exact absurd (show ¬ (0 < q) by simpa using hc) (by omega)
  refine xe_call c_divisor (hr.mono (by decide)) ?_
  refine xa_cons ?_
  refine xe_var 0 rfl ?_
  refine xa_cons ?_
  refine xe_var 1 rfl ?_
  refine xa_nil ?_
  refine ⟨_, _, rfl, by omega, ?_⟩
  refine ⟨lq rfl, fr0 rfl, ?_⟩
  have hg : (0 : Int) < Int.gcd p q ∧ ((Int.gcd p q : Nat) : Int) ≤ q := by
    have h1 : (((Int.gcd p q : Nat)) : Int) ∣ q := Int.gcd_dvd_right ..
    have h2 := Int.le_of_dvd hq0 h1
    have h3 : 0 < Int.gcd p q := Int.gcd_pos_of_ne_zero_right _ (by omega)
    exact ⟨by omega, h2⟩

  refine xb_one ?_
  refine xs_ret ?_
  refine xe_tup ?_
  refine xa_cons ?_
  refine xe_fdiv ?_
  refine xe_var 0 rfl ?_
  refine xe_var 2 rfl ?_
  refine ⟨_, _, rfl, rfl, ⟨hg.1, by omega⟩, ?_⟩
  refine xa_cons ?_
  refine xe_fdiv ?_
  refine xe_var 1 rfl ?_
  refine xe_var 2 rfl ?_
  refine ⟨_, _, rfl, rfl, ⟨hg.1, by omega⟩, ?_⟩
  refine xa_nil ?_
  exact ⟨by simp, hq⟩
end W99
end

section
namespace W99
open PySem L2 Gh
variable {P : Program} {w : World} {K : PySem.W.Frag} {mg : Str → Option Value} {base : Heap}

/-! ### bounds -/
structure BoundsOk (b : List Pr) (step : Int) : Prop where
  pos : 0 < b.length
  len : b.length ≤ 1000
  lo : ∀ p ∈ b, 0 ≤ p.1 ∧ p.1 ≤ p.2 ∧ p.2 ≤ 40
  st : 0 ≤ step ∧ step ≤ 40
def hrs (b : List Pr) (i : Nat) : Pr := b.getD i (0, 0)
def gapF (b : List Pr) (step : Int) (i j : Nat) : Bool := decide (step * ((j : Int) - i) < (hrs b i).1 - (hrs b j).2) || decide (step * ((j : Int) - i) < (hrs b j).1 - (hrs b i).2)
def NoGap (b : List Pr) (step : Int) : Prop := ∀ i j, i < j → j < b.length → gapF b step i j = false
def sw (step : Int) (a p : Pr) : Pr := (max p.1 (a.1 - step), min p.2 (a.2 + step))
def sweptGo (step : Int) : Pr → List Pr → List Pr
  | _, [] => []
  | a, p :: r => sw step a p :: sweptGo step (sw step a p) r
def sweptF (step : Int) : List Pr → List Pr
  | [] => []
  | p :: r => p :: sweptGo step p r
def narrowedF (b : List Pr) (step : Int) : List Pr := (sweptF step (sweptF step b).reverse).reverse
theorem sweptGo_app (step : Int) (p : Pr) : ∀ (l : List Pr) (a : Pr), sweptGo step a (l ++ [p]) = sweptGo step a l ++ [sw step ((sweptGo step a l).getLastD a) p]
  | [], a => rfl
  | q :: l, a => by
    rw [List.cons_append, sweptGo, sweptGo, sweptGo_app step p l, List.cons_append]
    congr 3
    cases h : sweptGo step (sw step a q) l with
    | nil => rfl
    | cons x y => rfl
theorem sweptGo_len (step : Int) : ∀ (l : List Pr) (a : Pr), (sweptGo step a l).length = l.length
  | [], a => rfl
  | q :: l, a => by rw [sweptGo, List.length_cons, sweptGo_len step l, List.length_cons]
theorem sweptF_len (step : Int) (l : List Pr) : (sweptF step l).length = l.length := by
  cases l with
  | nil => rfl
  | cons a l => rw [sweptF, List.length_cons, sweptGo_len, List.length_cons]
theorem narrowedF_len (b : List Pr) (step : Int) : (narrowedF b step).length = b.length := by
  rw [narrowedF, List.length_reverse, sweptF_len, List.length_reverse, sweptF_len]
/-- a step of the sweep, told at the end of what is there -/
theorem sweptF_app (step : Int) (p a : Pr) {l : List Pr} (h : (sweptF step l).getLast? = some a) : sweptF step (l ++ [p]) = sweptF step l ++ [sw step a p] := by
  cases l with
  | nil => cases h
  | cons q l =>
    rw [List.cons_append, sweptF, sweptF, sweptGo_app, List.cons_append]
    rw [sweptF, List.getLast?_cons] at h
    have h := Option.some.inj h
    rw [← List.getLastD_eq_getLast?] at h
    rw [h]
theorem hrs_at {b : List Pr} {i : Nat} (h : i < b.length) : b[i]? = some (hrs b i) := getElem?_getD _ h
theorem xe_join {X : Cx} {C : GC} {e : Expr} {Γ : GS} {Φ : PK} (Ψ : PyData → Prop) (h : Xe X C e Γ fun d Γ1 => Γ1 = Γ ∧ Ψ d) (h2 : ∀ d, Ψ d → Φ d Γ) : Xe X C e Γ Φ := h.mono fun d Γ1 ⟨e1, e2⟩ => by rw [e1]; exact h2 d e2
def g_is_gap (ds : List PyData) (Φ : PyData → Prop) : Prop := ∃ (b : List Pr) (step : Int) (i j : Nat), ds = [dB b step, .int i, .int j] ∧ BoundsOk b step ∧ i < b.length ∧ j < b.length ∧ Φ (.bool (gapF b step i j))
theorem ok_is_gap (D : Def K mg "is_gap" s_is_gap ["bounds", "i", "j"]) (T : Bi mg) : Cal P w K mg base 1 "is_gap" (spP K g_is_gap) := by
  have S := sc_is_gap
  refine def_pure D S (fun ds Φ ⟨_, _, _, _, h, _⟩ => by rw [h]; rfl) fun f cdv A outer s H B E ds Φ hr h => ?_
  obtain ⟨b, step, i, j, rfl, hb, hi, hj, hq⟩ := h

  refine xb_cons ?_
  refine xs_asgT [3, 4] ?_
  refine xe_var 0 rfl ?_
  refine xg_tup rfl ⟨_, rfl, rfl, ?_⟩
  refine xgs_nm 3 (lq rfl) (fr0 rfl) ?_ S.nd
  refine xgs_nm 4 (lq rfl) (fr0 rfl) ?_ S.nd
  refine xgs_nil ?_

  refine xb_cons ?_
  refine xs_asg 5 ?_ S.nd
  refine xe_mul ?_
  refine xe_var 4 rfl ?_
  refine xe_sub ?_
  refine xe_var 2 rfl ?_
  refine xe_var 1 rfl ?_
  refine ⟨_, _, rfl, rfl, ?_⟩
  refine ⟨_, _, rfl, rfl, .inl (by have := hb.st; omega), ?_⟩
  refine ⟨lq rfl, fr0 rfl, ?_⟩

  refine xb_one ?_
  refine xs_ret ?_
  refine xe_or ?_
  refine xe_gt ?_
  refine xe_sub ?_
  refine xe_ix ?_
  refine xe_ix ?_
  refine xe_var 3 rfl ?_
  refine xe_var 1 rfl ?_
  refine ⟨_, _, _, _, rfl, rfl, atNM (hrs_at hi) rfl, ?_⟩
  refine xe_int ?_
  refine ⟨_, _, _, _, rfl, rfl, rfl, ?_⟩
  refine xe_ix ?_
  refine xe_ix ?_
  refine xe_var 3 rfl ?_
  refine xe_var 2 rfl ?_
  refine ⟨_, _, _, _, rfl, rfl, atNM (hrs_at hj) rfl, ?_⟩
  refine xe_int ?_
  refine ⟨_, _, _, _, rfl, rfl, rfl, ?_⟩
  refine ⟨_, _, rfl, rfl, ?_⟩
  refine xe_var 5 rfl ?_
  refine ⟨_, _, rfl, rfl, ?_⟩
  refine ⟨_, rfl, fun hk => ?_, fun hk => ?_⟩; rotate_left
  refine xe_one ?_
  refine xe_gt ?_
  refine xe_sub ?_
  refine xe_ix ?_
  refine xe_ix ?_
  refine xe_var 3 rfl ?_
  refine xe_var 2 rfl ?_
  refine ⟨_, _, _, _, rfl, rfl, atNM (hrs_at hj) rfl, ?_⟩
  refine xe_int ?_
  refine ⟨_, _, _, _, rfl, rfl, rfl, ?_⟩
  refine xe_ix ?_
  refine xe_ix ?_
  refine xe_var 3 rfl ?_
  refine xe_var 1 rfl ?_
  refine ⟨_, _, _, _, rfl, rfl, atNM (hrs_at hi) rfl, ?_⟩
  refine xe_int ?_
  refine ⟨_, _, _, _, rfl, rfl, rfl, ?_⟩
  refine ⟨_, _, rfl, rfl, ?_⟩
  refine xe_var 5 rfl ?_
  refine ⟨_, _, rfl, rfl, ?_⟩
  · unfold gapF at hq
    rw [hk, Bool.false_or] at hq
    exact hq
  · unfold gapF at hq
    rw [hk, Bool.true_or] at hq
    exact hq

def g_first_gap (ds : List PyData) (Φ : PyData → Prop) : Prop := ∃ (b : List Pr) (step : Int), ds = [dB b step] ∧ BoundsOk b step ∧ (NoGap b step → Φ .none) ∧ (¬ NoGap b step → ∀ i j : Int, Φ (.tuple [.int i, .int j]))
theorem ok_first_gap (D : Def K mg "first_gap" s_first_gap ["bounds"]) (T : Bi mg) (c_is_gap : Cal P w K mg base 1 "is_gap" (spP K g_is_gap)) : Cal P w K mg base 2 "first_gap" (spP K g_first_gap) := by
  have S := sc_first_gap
  refine def_pure D S (fun ds Φ ⟨_, _, h, _⟩ => by rw [h]; rfl) fun f cdv A outer s H B E ds Φ hr h => ?_
  obtain ⟨b, step, rfl, hb, h1, h2⟩ := h

  refine xb_cons ?_
  refine xs_asg 1 ?_ S.nd
  refine xe_len T.len ?_
  refine xq_e ?_
  refine xe_ix ?_
  refine xe_var 0 rfl ?_
  refine xe_int ?_
  refine ⟨_, _, _, _, rfl, rfl, rfl, ?_⟩
  refine ⟨_, _, rfl, ?_⟩
  refine ⟨lq rfl, fr0 rfl, ?_⟩

  refine xb_cons ?_
  refine xs_for [2] PassesOwn.never rfl ?_
  refine xi_range1 T.range ?_
  refine xe_var 1 rfl ?_
  rw [List.length_map]
  have hlen := hb.len
  refine ⟨_, rfl, by omega, by omega, ?_⟩
  refine ⟨fun i Γ => (∃ a c, Γ = [.val (dB b step), .val (.int (b.length : Nat)), a, c]) ∧ ∀ i', i' < i → ∀ j, i' < j → j < b.length → gapF b step i' j = false, ⟨⟨_, _, rfl⟩, fun _ h => absurd h (Nat.not_lt_zero _)⟩, fun i Γ2 hi hP => ?_, fun Γ2 hP => ?_⟩
  · obtain ⟨⟨_, _, rfl⟩, hno⟩ := hP
    have hi : i < b.length := by omega
    refine xg_name 2 (lq rfl) (fr0 rfl) ?_ S.nd

    refine xb_one ?_
    refine xs_for [3] PassesOwn.never rfl ?_
    refine xi_range2 T.range ?_
    refine xe_add ?_
    refine xe_var 2 rfl ?_
    refine xe_int ?_
    refine ⟨_, _, rfl, rfl, ?_⟩
    refine xe_var 1 rfl ?_
    refine ⟨_, _, rfl, rfl, by omega, by omega, by omega, by omega, ?_⟩
    refine ⟨fun k Γ => (∃ c, Γ = [.val (dB b step), .val (.int (b.length : Nat)), .val (.int (i : Nat)), c]) ∧ ∀ j, i < j → j < i + 1 + k → gapF b step i j = false, ⟨⟨_, rfl⟩, fun _ h1 h2 => absurd h1 (by omega)⟩, fun k Γ2 hk hP => ?_, fun Γ2 hP => ?_⟩
    · obtain ⟨⟨_, rfl⟩, hno2⟩ := hP
      have hk : i + 1 + k < b.length := by omega
      refine xg_name 3 (lq rfl) (fr0 rfl) ?_ S.nd

      refine xb_one ?_
      refine xs_if ?_
      refine xt_val ?_
      refine xe_call c_is_gap (hr.mono (by decide)) ?_
      refine xa_cons ?_
      refine xe_var 0 rfl ?_
      refine xa_cons ?_
      refine xe_var 2 rfl ?_
      refine xa_cons ?_
      refine xe_var 3 rfl ?_
      refine xa_nil ?_
      refine ⟨b, step, i, i + 1 + k, ?_, hb, hi, hk, ?_⟩
      · simp
      refine ⟨_, rfl, ?_⟩
      refine ⟨fun hc => ?_, fun hc => ?_⟩
      ·
        refine xb_one ?_
        refine xs_ret ?_
        refine xe_tup ?_
        refine xa_cons ?_
        refine xe_var 2 rfl ?_
        refine xa_cons ?_
        refine xe_var 3 rfl ?_
        refine xa_nil ?_
        refine ⟨by simp, ?_⟩
        exact h2 (fun z => by rw [z i _ (by omega) hk] at hc; cases hc) _ _
      · refine xb_nil ?_
        refine ⟨⟨_, rfl⟩, fun j h3 h4 => ?_⟩
        rcases Nat.lt_or_ge j (i + 1 + k) with h | h
        · exact hno2 j h3 h
        · rw [show j = i + 1 + k by omega]; exact hc
    obtain ⟨⟨_, rfl⟩, hno2⟩ := hP
    refine ⟨⟨_, _, rfl⟩, fun i' h3 j h4 h5 => ?_⟩
    rcases Nat.lt_or_ge i' i with h | h
    · exact hno i' h j h4 h5
    · rw [show i' = i by omega] at h4 ⊢; exact hno2 j h4 (by omega)
  obtain ⟨⟨_, _, rfl⟩, hno⟩ := hP

  refine xb_one ?_
  refine xs_ret ?_
  refine xe_none ?_
  exact h1 fun i j h3 h4 => hno i (by omega) j h3 h4

def mkS (k : Bool) (ds : List PyData) : PyData := if k then .list ds else .tuple ds
def g_swept (ds : List PyData) (Φ : PyData → Prop) : Prop := ∃ (k : Bool) (b : List Pr) (step : Int), ds = [mkS k (b.map dP), .int step] ∧ 0 < b.length ∧ b.length ≤ 1000 ∧ Φ (.list ((sweptF step b).map dP))
theorem cutD_drop (xs : List PyData) {i : Nat} {k : Int} (e : k = (i : Int)) : cutD xs (some k) none = xs.drop i := by
  subst e
  unfold cutD
  rw [HT.sIx_none, HT.sIx_nat]
  rcases Nat.lt_or_ge i xs.length with h | h
  · rw [Nat.min_eq_left (by omega)]
    exact List.take_of_length_le (by simp)
  · rw [Nat.min_eq_right h, List.drop_length, List.drop_of_length_le h]
    simp
theorem ok_swept (D : Def K mg "swept" s_swept ["hours", "step"]) (T : Bi mg) : Cal P w K mg base 1 "swept" (spP K g_swept) := by
  have S := sc_swept
  refine def_pure D S (fun ds Φ ⟨_, _, _, h, _⟩ => by rw [h]; rfl) fun f cdv A outer s H B E ds Φ hr h => ?_
  obtain ⟨k, b, step, rfl, hb0, hb1, hq⟩ := h

  refine xb_cons ?_
  refine xs_asgM 2 ?_ S.nd
  refine (xm_lst ?_)
  refine xa_cons ?_
  refine xe_ix ?_
  refine xe_var 0 rfl ?_
  refine xe_int ?_
  refine ⟨k, b.map dP, _, dP (hrs b 0), by cases k <;> rfl, rfl, atNM (hrs_at hb0) rfl, ?_⟩
  refine xa_nil ?_
  refine ⟨by simp, ?_⟩
  refine ⟨lq rfl, fr0 rfl, ?_⟩

  refine xb_cons ?_
  refine xs_for [3, 4] PassesOwn.never rfl ?_
  refine xi_seq ?_
  refine Xe.mono (Φ := fun d Γ1 => Γ1 = [.val (mkS k (b.map dP)), .val (.int step), .lst [dP (hrs b 0)], .no, .no] ∧ d = mkS k ((b.drop 1).map dP)) ?_ fun d Γ1 ⟨e1, e2⟩ => ?_
  · cases k with
    | true =>
      refine xe_m (xm_slL ?_)
      refine xe_var 0 rfl ?_
      refine xo_some ?_
      refine xe_int ?_
      refine ⟨_, rfl, ?_⟩
      refine xo_none ?_
      exact ⟨_, rfl, rfl, by rw [cutD_drop (i := 1) (k := 1) _ rfl, ← List.map_drop]; rfl⟩
    | false =>
      refine xe_slT ?_
      refine xe_var 0 rfl ?_
      refine xo_some ?_
      refine xe_int ?_
      refine ⟨_, rfl, ?_⟩
      refine xo_none ?_
      exact ⟨_, rfl, rfl, by rw [cutD_drop (i := 1) (k := 1) _ rfl, ← List.map_drop]; rfl⟩
  subst e1 e2
  refine ⟨k, (b.drop 1).map dP, by cases k <;> rfl, ?_⟩
  rw [List.length_map]
  refine ⟨fun i Γ => ∃ acc a c, Γ = [.val (mkS k (b.map dP)), .val (.int step), .lst acc, a, c] ∧ acc = (sweptF step (b.take (i + 1))).map dP, ⟨_, _, _, rfl, ?_⟩, fun i Γ2 hi hP => ?_, fun Γ2 hP => ?_⟩
  · match b, hb0 with
    | q :: r, _ => rfl
  · obtain ⟨acc, _, _, rfl, ea⟩ := hP
    have hi0 := hi
    have hi : i + 1 < b.length := by rw [List.length_drop] at hi; omega
    obtain ⟨la, hla⟩ : ∃ la, (sweptF step (b.take (i + 1))).getLast? = some la := by
      have : (sweptF step (b.take (i + 1))) ≠ [] := fun z => by
        have := congrArg List.length z
        rw [sweptF_len, List.length_take, List.length_nil] at this
        omega
      exact ⟨_, List.getLast?_eq_some_getLast this⟩
    have hat : atI acc (-1) = some (dP la) := atL (by rw [ea, List.getLast?_map, hla]; rfl)
    refine xg_eq (d' := dP b[i + 1]) ?_ ?_
    · show (List.map dP (List.drop 1 b)).getD i _ = _
      rw [getD_map hi0]; simp [Nat.add_comm]
    refine xg_tup rfl ⟨_, rfl, rfl, ?_⟩
    refine xgs_nm 3 (lq rfl) (fr0 rfl) ?_ S.nd
    refine xgs_nm 4 (lq rfl) (fr0 rfl) ?_ S.nd
    refine xgs_nil ?_

    refine xb_one ?_
    refine xs_append 2 ?_
    refine xe_tup ?_
    refine xa_cons ?_
    refine xe_max2 rfl T.max ?_
    refine xa_cons ?_
    refine xe_var 3 rfl ?_
    refine xa_cons ?_
    refine xe_sub ?_
    refine xe_ix ?_
    refine xe_ixM 2 ?_
    refine xe_neg ?_
    refine xe_int ?_
    refine ⟨_, rfl, ?_⟩
    refine ⟨_, _, _, rfl, rfl, hat, ?_⟩
    refine xe_int ?_
    refine ⟨_, _, _, _, rfl, rfl, rfl, ?_⟩
    refine xe_var 1 rfl ?_
    refine ⟨_, _, rfl, rfl, ?_⟩
    refine xa_nil ?_
    refine ⟨_, _, rfl, ?_⟩
    refine xa_cons ?_
    refine xe_min2 rfl T.min ?_
    refine xa_cons ?_
    refine xe_var 4 rfl ?_
    refine xa_cons ?_
    refine xe_add ?_
    refine xe_ix ?_
    refine xe_ixM 2 ?_
    refine xe_neg ?_
    refine xe_int ?_
    refine ⟨_, rfl, ?_⟩
    refine ⟨_, _, _, rfl, rfl, hat, ?_⟩
    refine xe_int ?_
    refine ⟨_, _, _, _, rfl, rfl, rfl, ?_⟩
    refine xe_var 1 rfl ?_
    refine ⟨_, _, rfl, rfl, ?_⟩
    refine xa_nil ?_
    refine ⟨_, _, rfl, ?_⟩
    refine xa_nil ?_
    refine ⟨by simp, ?_⟩
    refine ⟨_, rfl, by rw [ea, List.length_map, sweptF_len, List.length_take]; omega, ?_⟩
    refine ⟨_, _, _, rfl, ?_⟩
    rw [take_one hi, sweptF_app step _ _ hla, ea, List.map_append]
    rfl
  obtain ⟨acc, _, _, rfl, ea⟩ := hP

  refine xb_one ?_
  refine xs_ret ?_
  refine xe_frz 2 rfl (fun _ h => nomatch h) ?_
  rw [ea, show b.take ((b.drop 1).length + 1) = b by rw [List.take_of_length_le]; simp; omega]
  exact hq

def g_narrowed (ds : List PyData) (Φ : PyData → Prop) : Prop := ∃ (b : List Pr) (step : Int), ds = [dB b step] ∧ BoundsOk b step ∧ NoGap b step ∧ Φ (.tuple ((narrowedF b step).map dP))
theorem ok_narrowed (D : Def K mg "narrowed" s_narrowed ["bounds"]) (T : Bi mg) (c_first_gap : Cal P w K mg base 2 "first_gap" (spP K g_first_gap)) (c_swept : Cal P w K mg base 1 "swept" (spP K g_swept)) : Cal P w K mg base 3 "narrowed" (spP K g_narrowed) := by
  have S := sc_narrowed
  refine def_pure D S (fun ds Φ ⟨_, _, h, _⟩ => by rw [h]; rfl) fun f cdv A outer s H B E ds Φ hr h => ?_
  obtain ⟨b, step, rfl, hb, hg, hq⟩ := h

  refine xb_cons ?_
  refine xs_if ?_
  refine xt_notN ?_
  refine xe_call c_first_gap (hr.mono (by decide)) ?_
  refine xa_cons ?_
  refine xe_var 0 rfl ?_
  refine xa_nil ?_
  refine ⟨b, step, rfl, hb, fun _ => ?_, fun z => absurd hg z⟩
  refine ⟨fun hc => (nomatch hc), fun hc => ?_⟩
  refine xb_nil ?_

  refine xb_cons ?_
  refine xs_asg 1 ?_ S.nd
  refine xe_call c_swept (hr.mono (by decide)) ?_
  refine xa_cons ?_
  refine xe_ix ?_
  refine xe_var 0 rfl ?_
  refine xe_int ?_
  refine ⟨_, _, _, _, rfl, rfl, rfl, ?_⟩
  refine xa_cons ?_
  refine xe_ix ?_
  refine xe_var 0 rfl ?_
  refine xe_int ?_
  refine ⟨_, _, _, _, rfl, rfl, rfl, ?_⟩
  refine xa_nil ?_
  refine ⟨false, b, step, rfl, hb.pos, hb.len, ?_⟩
  refine ⟨lq rfl, fr0 rfl, ?_⟩

  refine xb_cons ?_
  refine xs_asg 2 ?_ S.nd
  refine xe_call c_swept (hr.mono (by decide)) ?_
  refine xa_cons ?_
  refine xe_m (xm_rev (p4 := ⟨0, 0, 0, 0⟩) ?_)
  refine xe_var 1 rfl ?_
  refine ⟨_, rfl, ?_⟩
  refine xa_cons ?_
  refine xe_ix ?_
  refine xe_var 0 rfl ?_
  refine xe_int ?_
  refine ⟨_, _, _, _, rfl, rfl, rfl, ?_⟩
  refine xa_nil ?_
  refine ⟨true, (sweptF step b).reverse, step, by rw [← List.map_reverse]; rfl, by simp [sweptF_len]; exact hb.pos, by simp [sweptF_len]; exact hb.len, ?_⟩
  refine ⟨lq rfl, fr0 rfl, ?_⟩

  refine xb_one ?_
  refine xs_ret ?_
  refine xe_tupleOf T.tuple ?_
  refine xq_e ?_
  refine xe_m (xm_rev (p4 := ⟨0, 0, 0, 0⟩) ?_)
  refine xe_var 2 rfl ?_
  refine ⟨_, rfl, ?_⟩
  refine ⟨_, _, rfl, ?_⟩
  refine ⟨rfl, ?_⟩
  rw [← List.map_reverse]
  exact hq

def g_first_weather (ds : List PyData) (Φ : PyData → Prop) : Prop := ∃ (b : List Pr) (step : Int), ds = [dB b step] ∧ BoundsOk b step ∧ NoGap b step ∧ ∀ ns : List Int, Φ (.tuple (dI ns))
theorem ok_first_weather (D : Def K mg "first_weather" s_first_weather ["bounds"]) (T : Bi mg) (c_narrowed : Cal P w K mg base 3 "narrowed" (spP K g_narrowed)) : Cal P w K mg base 4 "first_weather" (spP K g_first_weather) := by
  have S := sc_first_weather
  refine def_pure D S (fun ds Φ ⟨_, _, h, _⟩ => by rw [h]; rfl) fun f cdv A outer s H B E ds Φ hr h => ?_
  obtain ⟨b, step, rfl, hb, hg, hq⟩ := h

  refine xb_cons ?_
  refine xs_asg 1 ?_ S.nd
  refine xe_call c_narrowed (hr.mono (by decide)) ?_
  refine xa_cons ?_
  refine xe_var 0 rfl ?_
  refine xa_nil ?_
  refine ⟨b, step, rfl, hb, hg, ?_⟩
  refine ⟨lq rfl, fr0 rfl, ?_⟩

  refine xb_cons ?_
  refine xs_asgM 2 ?_ S.nd
  refine (xm_lst ?_)
  refine xa_nil ?_
  refine ⟨by simp, ?_⟩
  refine ⟨lq rfl, fr0 rfl, ?_⟩

  refine xb_cons ?_
  refine xs_for [3, 4] PassesOwn.never rfl ?_
  refine xi_seq ?_
  refine xe_var 1 rfl ?_
  refine ⟨_, _, rfl, ?_⟩
  rw [List.length_map]
  refine ⟨fun i Γ => ∃ (acc : List Int) (ds : List PyData) (a c : GE), Γ = [.val (dB b step), .val (.tuple ((narrowedF b step).map dP)), .lst ds, a, c] ∧ ds = dI acc ∧ acc.length = i, ⟨[], _, _, _, rfl, rfl, rfl⟩, fun i Γ2 hi hP => ?_, fun Γ2 hP => ?_⟩
  · obtain ⟨acc, _, _, _, rfl, rfl, ea⟩ := hP
    have hlen := hb.len
    have hnl := narrowedF_len b step
    refine xg_eq (getD_map hi) ?_
    refine xg_tup rfl ⟨_, rfl, rfl, ?_⟩
    refine xgs_nm 3 (lq rfl) (fr0 rfl) ?_ S.nd
    refine xgs_nm 4 (lq rfl) (fr0 rfl) ?_ S.nd
    refine xgs_nil ?_

    refine xb_one ?_
    refine xs_append 2 ?_
    refine xe_join (fun d => ∃ n : Int, d = .int n) ?_ fun d ⟨n, en⟩ => ?_
    rotate_left
    · subst en
      refine ⟨_, rfl, by simp; omega, ?_⟩
      exact ⟨acc ++ [n], _, _, _, rfl, by rw [dI, dI, List.map_append]; rfl, by simp [ea]⟩
    refine xe_if ?_
    refine xt_gt ?_
    refine xe_len T.len ?_
    refine xq_m 2 rfl ?_
    refine xe_int ?_
    refine ⟨_, _, rfl, rfl, ?_⟩
    refine ⟨fun hc => ?_, fun hc => ?_⟩
    · refine xe_max2 rfl T.max ?_
      refine xa_cons ?_
      refine xe_var 3 rfl ?_
      refine xa_cons ?_
      refine xe_sub ?_
      refine xe_ixM 2 ?_
      refine xe_neg ?_
      refine xe_int ?_
      refine ⟨_, rfl, ?_⟩
      have hpos : 0 < acc.length := by simpa using hc
      refine ⟨_, _, _, rfl, rfl, atL (a := .int (acc.getLast (List.ne_nil_of_length_pos hpos))) (by rw [List.getLast?_map, List.getLast?_eq_some_getLast (List.ne_nil_of_length_pos hpos)]; rfl), ?_⟩
      refine xe_ix ?_
      refine xe_var 0 rfl ?_
      refine xe_int ?_
      refine ⟨_, _, _, _, rfl, rfl, rfl, ?_⟩
      refine ⟨_, _, rfl, rfl, ?_⟩
      refine xa_nil ?_
      exact ⟨_, _, rfl, rfl, _, rfl⟩
    · exact xe_var 3 rfl ⟨rfl, _, rfl⟩
  obtain ⟨acc, _, _, _, rfl, rfl, ea⟩ := hP

  refine xb_one ?_
  refine xs_ret ?_
  refine xe_tupleOf T.tuple ?_
  refine xq_m 2 rfl ?_
  refine ⟨rfl, ?_⟩
  exact hq acc

def g_weather_paper (ds : List PyData) (Φ : PyData → Prop) : Prop := ∃ (b : List Pr) (step : Int), ds = [dB b step] ∧ BoundsOk b step ∧ (NoGap b step → ∀ ns : List Int, Φ (.tuple [.str "weather", .tuple (dI ns)])) ∧ (¬ NoGap b step → ∀ i j : Int, Φ (.tuple [.str "gap", .int i, .int j]))
theorem ok_weather_paper (D : Def K mg "weather_paper" s_weather_paper ["bounds"]) (T : Bi mg) (c_first_gap : Cal P w K mg base 2 "first_gap" (spP K g_first_gap)) (c_first_weather : Cal P w K mg base 4 "first_weather" (spP K g_first_weather)) : Cal P w K mg base 5 "weather_paper" (spP K g_weather_paper) := by
  have S := sc_weather_paper
  refine def_pure D S (fun ds Φ ⟨_, _, h, _⟩ => by rw [h]; rfl) fun f cdv A outer s H B E ds Φ hr h => ?_
  obtain ⟨b, step, rfl, hb, h1, h2⟩ := h

  refine xb_cons ?_
  refine xs_asg 1 ?_ S.nd
  refine xe_call c_first_gap (hr.mono (by decide)) ?_
  refine xa_cons ?_
  refine xe_var 0 rfl ?_
  refine xa_nil ?_
  refine ⟨b, step, rfl, hb, fun hg => ?_, fun hg i j => ?_⟩
  · refine ⟨lq rfl, fr0 rfl, ?_⟩
    refine xb_one ?_
    refine xs_ret ?_
    refine xe_if ?_
    refine xt_isN ?_
    refine xe_var 1 rfl ?_
    refine ⟨fun hc => ?_, fun hc => (nomatch hc)⟩
    refine xe_tup ?_
    refine xa_cons ?_
    refine xe_str ?_
    refine xa_cons ?_
    refine xe_call c_first_weather (hr.mono (by decide)) ?_
    refine xa_cons ?_
    refine xe_var 0 rfl ?_
    refine xa_nil ?_
    refine ⟨b, step, rfl, hb, hg, fun ns => ?_⟩
    refine xa_nil ?_
    exact ⟨by simp, h1 hg ns⟩
  · refine ⟨lq rfl, fr0 rfl, ?_⟩
    refine xb_one ?_
    refine xs_ret ?_
    refine xe_if ?_
    refine xt_isN ?_
    refine xe_var 1 rfl ?_
    refine ⟨fun hc => (nomatch hc), fun hc => ?_⟩
    refine xe_tup ?_
    refine xa_cons ?_
    refine xe_str ?_
    refine xa_cons ?_
    refine xe_ix ?_
    refine xe_var 1 rfl ?_
    refine xe_int ?_
    refine ⟨_, _, _, _, rfl, rfl, rfl, ?_⟩
    refine xa_cons ?_
    refine xe_ix ?_
    refine xe_var 1 rfl ?_
    refine xe_int ?_
    refine ⟨_, _, _, _, rfl, rfl, rfl, ?_⟩
    refine xa_nil ?_
    exact ⟨by simp, h2 hg i j⟩
end W99
end

section
namespace W99
open PySem L2 Gh
variable {P : Program} {w : World} {K : PySem.W.Frag} {mg : Str → Option Value} {base : Heap}

/-- a constant of the text -/
def Gk (K : PySem.W.Frag) (mg : Str → Option Value) (x : Str) (d : PyData) : Prop := ∃ (v : V) (u : Value), mg x = some u ∧ RelV v u ∧ ∀ B, Dp K B v d
theorem xe_const {X : Cx} {C : GC} {Γ : GS} {x : Str} {d : PyData} {pos : Pos} {Φ : PK} (g : Gk X.K X.mg x d) (h : Φ d Γ) (hg : Gl X x := by rfl) (hdb : (x == ("__debug__" : Str)) = false := by decide) : Xe X C (.Name x pos) Γ Φ := by
  obtain ⟨v, u, h1, h2, h3⟩ := g
  exact xe_glob h1 h2 h3 h hg hdb
/-! ### subsets, cases -/
def subsF (ns : List Int) : List (List Int) := ns.foldl (fun found x => found ++ found.map (· ++ [x])) [[]]
theorem subsF_snoc (ns : List Int) (x : Int) : subsF (ns ++ [x]) = subsF ns ++ (subsF ns).map (· ++ [x]) := by
  unfold subsF
  rw [List.foldl_append]
  rfl
theorem subsF_take {ns : List Int} {i : Nat} (h : i < ns.length) : subsF (ns.take (i + 1)) = subsF (ns.take i) ++ (subsF (ns.take i)).map (· ++ [ns[i]]) := by
  rw [take_one h, subsF_snoc]
theorem subsF_ind {Pr : List Int → Prop} (h : Pr []) (hs : ∀ ns x, Pr ns → Pr (ns ++ [x])) (ns : List Int) : Pr ns := by
  have : ∀ k, k ≤ ns.length → Pr (ns.take k) := fun k => by
    induction k with
    | zero => intro _; simpa using h
    | succ k ih =>
      intro hk
      rw [take_one (by omega)]
      exact hs _ _ (ih (by omega))
  have h2 := this ns.length (Nat.le_refl _)
  rwa [List.take_length] at h2
theorem subsF_len (ns : List Int) : (subsF ns).length = 2 ^ ns.length := by
  refine subsF_ind (Pr := fun ns => (subsF ns).length = 2 ^ ns.length) rfl (fun ns x ih => ?_) ns
  rw [subsF_snoc, List.length_append, List.length_map, ih, List.length_append, List.length_singleton, Nat.pow_succ]
  omega
theorem subsF_head (ns : List Int) : ∃ r, subsF ns = [] :: r := by
  refine subsF_ind (Pr := fun ns => ∃ r, subsF ns = [] :: r) ⟨[], rfl⟩ (fun ns x ⟨r, ih⟩ => ?_) ns
  rw [subsF_snoc, ih]
  exact ⟨_, rfl⟩
abbrev dR (r : List Int) : PyData := .tuple (dI r)
theorem alike_ints : ∀ xs ys : List Int, PySem.W.alikeAll (dI xs) (dI ys) = true
  | [], _ => by simp [PySem.W.alikeAll]
  | x :: xs, [] => by simp [PySem.W.alikeAll]
  | x :: xs, y :: ys => by
    have := alike_ints xs ys
    simp only [dI, List.map_cons] at this ⊢
    simp [PySem.W.alikeAll, PySem.W.alike, this]
theorem alike_rows (xs ys : List Int) : PySem.W.alike (dR xs) (dR ys) = true := by
  simp only [PySem.W.alike]
  exact alike_ints xs ys
theorem depth_ints : ∀ xs : List Int, PyData.depthAll (dI xs) ≤ 1
  | [] => by simp [PyData.depthAll]
  | x :: xs => by
    have := depth_ints xs
    simp only [dI, List.map_cons, PyData.depthAll, PyData.depth] at this ⊢
    omega
theorem depth_row (xs : List Int) : (dR xs).depth ≤ 2 := by
  have := depth_ints xs
  simp only [PyData.depth]
  omega
/-- what a list of coded things can be turned about to is coded -/
theorem perm_coded {α : Type} (f : α → PyData) : ∀ {xs : List α} {ds : List PyData}, ds.Perm (xs.map f) → ∃ ys : List α, ds = ys.map f ∧ ys.Perm xs := by
  intro xs
  induction xs with
  | nil =>
    intro ds h
    exact ⟨[], by simpa using h.eq_nil, List.Perm.refl _⟩
  | cons x xs ih =>
    intro ds h
    have hm : f x ∈ ds := h.mem_iff.mpr (by simp)
    obtain ⟨a, b, rfl⟩ := List.append_of_mem hm
    have h2 : (a ++ b).Perm (xs.map f) := by
      have h3 : (f x :: (a ++ b)).Perm (f x :: xs.map f) := List.perm_middle.symm.trans h
      exact h3.cons_inv
    obtain ⟨ys, e, p⟩ := ih h2
    have e1 : a = (ys.take a.length).map f := by rw [List.map_take, ← e]; simp
    have e2 : b = (ys.drop a.length).map f := by rw [List.map_drop, ← e]; simp
    refine ⟨ys.take a.length ++ x :: ys.drop a.length, ?_, ?_⟩
    · rw [List.map_append, List.map_cons, ← e1, ← e2]
    · refine List.perm_middle.trans ?_
      rw [List.take_append_drop]
      exact p.cons x
def g_subsets (ds : List PyData) (Φ : PyData → Prop) : Prop := ∃ ns : List Int, ds = [.list (dI ns)] ∧ ns.length ≤ 10 ∧ ∀ rows : List (List Int), rows.Perm (subsF ns) → Φ (.list (rows.map dR))
theorem pow10 {k : Nat} (h : k ≤ 10) : 2 ^ k ≤ 1024 := Nat.pow_le_pow_right (by decide) h
theorem subsF_row {ns r : List Int} : r ∈ subsF ns → r.length ≤ ns.length := by
  refine subsF_ind (Pr := fun ns => ∀ r, r ∈ subsF ns → r.length ≤ ns.length) ?_ (fun ns x ih r hr => ?_) ns r
  · intro r hr
    rcases List.mem_singleton.mp hr with rfl
    exact Nat.le_refl _
  · rw [subsF_snoc] at hr
    rw [List.length_append]
    rcases List.mem_append.mp hr with h | h
    · have := ih r h
      omega
    · obtain ⟨q, hq, rfl⟩ := List.mem_map.mp h
      have := ih q hq
      simp
      exact this
theorem ok_subsets (D : Def K mg "subsets" s_subsets ["items"]) (T : Bi mg) : Cal P w K mg base 1 "subsets" (spP K g_subsets) := by
  have S := sc_subsets
  refine def_pure D S (fun ds Φ ⟨_, h, _⟩ => by rw [h]; rfl) fun f cdv A outer s H B E ds Φ hr h => ?_
  obtain ⟨ns, rfl, hl, hq⟩ := h

  refine xb_cons ?_
  refine xs_asgM 1 ?_ S.nd
  refine (xm_lst ?_)
  refine xa_cons ?_
  refine xe_tup ?_
  refine xa_nil ?_
  refine ⟨by simp, ?_⟩
  refine xa_nil ?_
  refine ⟨by simp, ?_⟩
  refine ⟨lq rfl, fr0 rfl, ?_⟩

  refine xb_cons ?_
  refine xs_for [2] PassesOwn.never rfl ?_
  refine xi_seq ?_
  refine xe_var 0 rfl ?_
  refine ⟨_, _, rfl, ?_⟩
  rw [List.length_map]
  refine ⟨fun i Γ => ∃ acc a, Γ = [.val (.list (dI ns)), .lst acc, a, .no] ∧ acc = (subsF (ns.take i)).map dR, ⟨_, _, rfl, rfl⟩, fun i Γ2 hi hP => ?_, fun Γ2 hP => ?_⟩
  · obtain ⟨acc, _, rfl, ea⟩ := hP
    refine xg_eq (getD_map hi) ?_
    have hlen : acc.length ≤ 1024 := by
      rw [ea, List.length_map, subsF_len, List.length_take]
      exact pow10 (by omega)
    refine xg_name 2 (lq rfl) (fr0 rfl) ?_ S.nd

    refine xb_one ?_
    refine xs_extend 1 ?_
    refine xm_lcOwn 1 [("row", 3)] rfl S.nd (blkOk_by rfl) (fun _ h => nomatch h) rfl (fun _ h => nomatch h) (by decide) (by omega) (fun _ => true) (fun j => dR (((subsF (ns.take i)).getD j []) ++ [ns[i]])) (fun j hj => ?_) ?_
    · refine ⟨nomu, fun s1 H1 Ca cl fp C' hC => ?_⟩
      have hj : j < (subsF (ns.take i)).length := by rw [ea, List.length_map] at hj; exact hj
      refine xg_eq (d' := dR ((subsF (ns.take i)).getD j [])) ?_ ?_
      · rw [ea, getD_map hj]
        simp [List.getD_eq_getElem?_getD, hj]
      refine xg_name 3 (lq rfl) (fr0 hC) ?_ S.nd
      intro s1 H1 Ca cl fp
      refine xts_nil ?_
      refine ⟨fun hk => (nomatch hk), fun hk s1 H1 Ca cl fp => ?_⟩
      refine xe_catT ?_
      refine xe_var 3 rfl ?_
      refine xe_tup ?_
      refine xa_cons ?_
      refine xe_var 2 rfl ?_
      refine xa_nil ?_
      refine ⟨by simp, ?_⟩
      refine ⟨_, _, rfl, rfl, ?_, ?_⟩
      · have h1 := subsF_row (List.getElem_mem hj)
        simp [List.getD_eq_getElem?_getD, hj]
        simp at h1
        omega
      refine ⟨rfl, rfl, ?_⟩
      rw [dR, dI, dI, List.map_append]
      rfl
    refine ⟨_, rfl, ?_, ?_⟩
    · rw [filter_all, List.length_map, List.length_range]
      omega
    refine ⟨_, _, rfl, ?_⟩
    rw [subsF_take hi, List.map_append, ← ea, filter_all]
    congr 1
    rw [ea, List.length_map, List.map_map]
    exact List.ext_getElem (by simp) fun j h1 h2 => by simp [List.getD_eq_getElem?_getD, List.getElem?_eq_getElem (show j < (subsF (ns.take i)).length by simpa using h2)]
  obtain ⟨acc, _, rfl, ea⟩ := hP
  rw [List.take_length] at ea
  obtain ⟨rr, er⟩ := subsF_head ns

  refine xb_one ?_
  refine xs_ret ?_
  refine xe_m (xm_sortedE hr.units T.sorted ?_)
  refine xq_m 1 rfl ?_
  refine ⟨rfl, rr.map dR, by rw [ea, er]; rfl, ?_, ?_, ?_, ?_⟩
  · rw [ea]
    intro d hd d' hd'
    obtain ⟨x, _, rfl⟩ := List.mem_map.mp hd
    obtain ⟨y, _, rfl⟩ := List.mem_map.mp hd'
    exact alike_rows x y
  · intro d hd
    obtain ⟨x, _, rfl⟩ := List.mem_map.mp hd
    exact ⟨_, rfl⟩
  · rw [ea]
    intro d hd
    obtain ⟨x, _, rfl⟩ := List.mem_map.mp hd
    have := depth_row x
    omega
  · rw [ea]
    obtain ⟨ys, e, p⟩ := perm_coded dR (List.mergeSort_perm ((subsF ns).map dR) (PySem.W.dataLe false id))
    rw [e]
    exact hq ys p
end W99
end

section
namespace W99
open PySem L2 Gh
variable {P : Program} {w : World} {K : PySem.W.Frag} {mg : Str → Option Value} {base : Heap}

def casesAt (w d : Int) (rows : List (List Int)) : List Case := rows.map fun r => ⟨w, d, r⟩
def casesF (low high : Int) (rows : List (List Int)) : List Case := (List.range (high + 1 - low).toNat).flatMap fun (k : Nat) => (List.range 4).flatMap fun (d : Nat) => casesAt (low + (k : Int)) (d : Int) rows
def rowsF (n : Nat) (stops : Int) : List (List Int) := (subsF ((List.range n).map fun (i : Nat) => (i : Int))).filter fun r => decide ((r.length : Int) ≤ stops)
def g_cases (ds : List PyData) (Φ : PyData → Prop) : Prop := ∃ (low high : Int) (n : Nat) (stops : Int), ds = [.int low, .int high, .int n, .int stops] ∧ n ≤ 10 ∧ 0 ≤ low ∧ low ≤ 100 ∧ -1 ≤ high ∧ high ≤ 100 ∧ ∀ rows : List (List Int), rows.Perm (rowsF n stops) → Φ (.list ((casesF low high rows).map dK))
theorem rowsF_len (n : Nat) (stops : Int) (h : n ≤ 10) : (rowsF n stops).length ≤ 1024 := by
  refine Nat.le_trans (List.length_filter_le _ _) ?_
  rw [subsF_len, List.length_map, List.length_range]
  exact pow10 h
theorem flat_le {α β : Type} {f : α → List β} {m : Nat} (hf : ∀ a, (f a).length ≤ m) : ∀ l : List α, (l.flatMap f).length ≤ m * l.length
  | [] => by simp
  | a :: l => by
    have h1 := flat_le hf l
    have h2 := hf a
    rw [List.flatMap_cons, List.length_append, List.length_cons, Nat.mul_succ]
    omega
theorem getD_mapD {α β : Type} {xs : List α} {f : α → β} {i : Nat} {d : β} (d0 : α) (h : i < xs.length) : (xs.map f).getD i d = f (xs.getD i d0) := by
  rw [getD_map h]; simp [List.getD_eq_getElem?_getD, h]
theorem map_flat {α β γ : Type} (f : β → γ) (g : α → List β) (l : List α) : (l.flatMap g).map f = l.flatMap fun a => (g a).map f := by
  induction l with
  | nil => rfl
  | cons a l ih => simp [ih]
theorem casesAt_flat (a : Int) (d : Nat) (rows : List (List Int)) : (([d] : List Nat).flatMap fun (d : Nat) => casesAt a (d : Int) rows) = casesAt a d rows := by simp
theorem ok_cases (D : Def K mg "cases" s_cases ["low", "high", "machines", "stops"]) (T : Bi mg) (g_DIRECTIONS : Gk K mg "DIRECTIONS" (.int 4)) (c_subsets : Cal P w K mg base 1 "subsets" (spP K g_subsets)) : Cal P w K mg base 2 "cases" (spP K g_cases) := by
  have S := sc_cases
  refine def_pure D S (fun ds Φ ⟨_, _, _, _, h, _⟩ => by rw [h]; rfl) fun f cdv A outer s H B E ds Φ hr h => ?_
  obtain ⟨low, high, n, stops, rfl, hn, hl1, hl2, hh1, hh2, hq⟩ := h

  refine xb_cons ?_
  refine xs_asgLc 4 [("row", 5)] rfl S.nd (blkOk_by rfl) (fun _ h => nomatch h) (lc_pure ?_) (sw_true rfl rfl rfl (by decide +kernel))
  refine xi_seq ?_
  refine xe_call c_subsets (hr.mono (by decide)) ?_
  refine xa_cons ?_
  refine xe_m (xm_listRange rfl T.list T.range ?_)
  refine xe_var 2 rfl ?_
  refine ⟨_, rfl, by omega, by omega, ?_⟩
  refine xa_nil ?_
  refine ⟨(List.range n).map fun (i : Nat) => (i : Int), by simp [rgD, dI], by simpa using hn, fun rows0 hp => ?_⟩
  refine ⟨_, _, rfl, ?_⟩
  rw [List.length_map]
  have hl0 : rows0.length ≤ 1024 := by
    rw [hp.length_eq, subsF_len, List.length_map, List.length_range]
    exact pow10 hn
  refine ⟨by omega, fun i => decide (((rows0.getD i []).length : Int) ≤ stops), fun i => dR (rows0.getD i []), fun i hi => ?turn, ?_⟩
  case turn =>
    refine ⟨nomu, fun s1 H1 Ca cl fp C' hC => ?_⟩
    refine xg_eq (getD_mapD [] hi) ?_
    refine xg_name 5 (lq rfl) (fr0 hC) ?_ S.nd
    intro s1 H1 Ca cl fp
    refine xts_one ?_
    refine xt_eq (decide (((rows0.getD i []).length : Int) ≤ stops)) ?_ ?_
    refine xt_le ?_
    refine xe_len T.len ?_
    refine xq_e ?_
    refine xe_var 5 rfl ?_
    refine ⟨_, _, rfl, ?_⟩
    refine xe_var 3 rfl ?_
    refine ⟨_, _, rfl, rfl, rfl, by rw [List.length_map]⟩
    refine ⟨fun hk => ⟨rfl, hk⟩, fun hk s1 H1 Ca cl fp => ?_⟩
    refine xe_var 5 rfl ?_
    exact ⟨rfl, hk, rfl⟩
  refine ⟨lq rfl, fr0 rfl, ?_⟩
  obtain ⟨rows, er⟩ : ∃ rows : List (List Int), rows = rows0.filter fun r => decide ((r.length : Int) ≤ stops) := ⟨_, rfl⟩
  have e1 := range_filter_map rows0 [] (fun r : List Int => decide ((r.length : Int) ≤ stops)) dR
  rw [e1, ← er]
  have hpr : rows.Perm (rowsF n stops) := by rw [er]; exact hp.filter _
  have hlr : rows.length ≤ 1024 := by rw [hpr.length_eq]; exact rowsF_len n stops hn

  refine xb_cons ?_
  refine xs_asgM 6 ?_ S.nd
  refine (xm_lst ?_)
  refine xa_nil ?_
  refine ⟨by simp, ?_⟩
  refine ⟨lq rfl, fr0 rfl, ?_⟩

  refine xb_cons ?_
  refine xs_for [7] PassesOwn.never rfl ?_
  refine xi_range2 T.range ?_
  refine xe_var 0 rfl ?_
  refine xe_add ?_
  refine xe_var 1 rfl ?_
  refine xe_int ?_
  refine ⟨_, _, rfl, rfl, ?_⟩
  refine ⟨_, _, rfl, rfl, by omega, by omega, by omega, by omega, ?_⟩
  refine ⟨fun k Γ => ∃ acc a b, Γ = [.val (.int low), .val (.int high), .val (.int n), .val (.int stops), .val (.list (rows.map dR)), .no, .lst acc, a, b] ∧ acc = ((List.range k).flatMap fun (k : Nat) => (List.range 4).flatMap fun (d : Nat) => casesAt (low + (k : Int)) (d : Int) rows).map dK, ⟨_, _, _, rfl, rfl⟩, fun k Γ2 hk hP => ?_, fun Γ2 hP => ?_⟩
  · obtain ⟨acc, _, _, rfl, ea⟩ := hP
    refine xg_name 7 (lq rfl) (fr0 rfl) ?_ S.nd

    refine xb_one ?_
    refine xs_for [8] PassesOwn.never rfl ?_
    refine xi_range1 T.range ?_
    refine xe_const g_DIRECTIONS ?_
    refine ⟨_, rfl, by omega, by omega, ?_⟩
    refine ⟨fun d Γ => ∃ ac2 b, Γ = [.val (.int low), .val (.int high), .val (.int n), .val (.int stops), .val (.list (rows.map dR)), .no, .lst ac2, .val (.int (low + (k : Nat))), b] ∧ ac2 = acc ++ ((List.range d).flatMap fun (d : Nat) => casesAt (low + (k : Int)) (d : Int) rows).map dK, ⟨_, _, rfl, by simp⟩, fun d Γ2 hd hP => ?_, fun Γ2 hP => ?_⟩
    · obtain ⟨ac2, _, rfl, ea2⟩ := hP
      have hd : d < 4 := by omega
      have hbig : ac2.length ≤ 1024 * 4 * 102 + 1024 * 4 := by
        have h1 : ∀ (a d : Int), (casesAt a d rows).length ≤ 1024 := fun a d => by rw [casesAt, List.length_map]; exact hlr
        have h2 : ∀ a : Int, ((List.range 4).flatMap fun (d : Nat) => casesAt a (d : Int) rows).length ≤ 1024 * 4 := fun a => by simpa using flat_le (f := fun (d : Nat) => casesAt a (d : Int) rows) (fun d => h1 a d) (List.range 4)
        have h3 := flat_le (f := fun (k : Nat) => (List.range 4).flatMap fun (d : Nat) => casesAt (low + (k : Int)) (d : Int) rows) (fun k => h2 _) (List.range k)
        have h4 := flat_le (f := fun (d : Nat) => casesAt (low + (k : Int)) (d : Int) rows) (fun d => h1 _ _) (List.range d)
        rw [ea2, ea, List.length_append, List.length_map, List.length_map]
        rw [List.length_range] at h3 h4
        have : 1024 * 4 * k ≤ 1024 * 4 * 102 := Nat.mul_le_mul_left _ (by omega)
        have : 1024 * d ≤ 1024 * 4 := Nat.mul_le_mul_left _ (by omega)
        omega
      refine xg_name 8 (lq rfl) (fr0 rfl) ?_ S.nd

      refine xb_one ?_
      refine xs_extend 6 ?_
      refine xm_lc [("row", 5)] rfl S.nd (blkOk_by rfl) (fun _ h => nomatch h) (lc_pure ?_)
      refine xi_seq ?_
      refine xe_var 4 rfl ?_
      refine ⟨_, _, rfl, ?_⟩
      rw [List.length_map]
      refine ⟨by omega, fun _ => true, fun i => dK ⟨low + (k : Nat), (d : Nat), rows.getD i []⟩, fun i hi => ?turn, ?_⟩
      case turn =>
        refine ⟨nomu, fun s1 H1 Ca cl fp C' hC => ?_⟩
        refine xg_eq (getD_mapD [] hi) ?_
        refine xg_name 5 (lq rfl) (fr0 hC) ?_ S.nd
        intro s1 H1 Ca cl fp
        refine xts_nil ?_
        refine ⟨fun hk => (nomatch hk), fun hk s1 H1 Ca cl fp => ?_⟩
        refine xe_tup ?_
        refine xa_cons ?_
        refine xe_var 7 rfl ?_
        refine xa_cons ?_
        refine xe_var 8 rfl ?_
        refine xa_cons ?_
        refine xe_var 5 rfl ?_
        refine xa_nil ?_
        refine ⟨by simp, ?_⟩
        exact ⟨rfl, rfl, rfl⟩
      refine ⟨_, rfl, ?_, ?_⟩
      · rw [filter_all, List.length_map, List.length_range]
        omega
      refine ⟨_, _, rfl, ?_⟩
      rw [ea2, List.range_succ, List.flatMap_append, List.map_append, filter_all, List.append_assoc]
      congr 2
      rw [casesAt_flat]
      exact List.ext_getElem (by simp [casesAt]) fun j h1 h2 => by simp [casesAt, List.getD_eq_getElem?_getD, List.getElem?_eq_getElem (show j < rows.length by simpa [casesAt] using h2)]
    obtain ⟨ac2, _, rfl, ea2⟩ := hP
    refine ⟨_, _, _, rfl, ?_⟩
    rw [ea2, ea, show List.range (k + 1) = List.range k ++ [k] from List.range_succ, List.flatMap_append, List.map_append]
    congr 1
    simp
  obtain ⟨acc, _, _, rfl, ea⟩ := hP

  refine xb_one ?_
  refine xs_ret ?_
  refine xe_frz 6 rfl (fun _ h => nomatch h) ?_
  rw [ea]
  exact hq rows hpr
end W99
end

section
namespace W99
open PySem L2 Gh
variable {P : Program} {w : World} {K : PySem.W.Frag} {mg : Str → Option Value} {base : Heap}

theorem map_getD_all {α : Type} (xs : List α) (d : α) (f : α → PyData) : ((List.range xs.length).filter fun _ => true).map (fun i => f (xs.getD i d)) = xs.map f := by
  have := range_filter_map xs d (fun _ => true) f
  rw [filter_all xs] at this
  exact this
theorem mem_casesF {low high : Int} {rows : List (List Int)} {ca : Case} : ca ∈ casesF low high rows ↔ (low ≤ ca.wind ∧ ca.wind ≤ high) ∧ (0 ≤ ca.dir ∧ ca.dir < 4) ∧ ca.off ∈ rows := by
  unfold casesF casesAt
  simp only [List.mem_flatMap, List.mem_range, List.mem_map]
  constructor
  · rintro ⟨k, hk, d, hd, r, hr, rfl⟩
    exact ⟨⟨by show low ≤ low + (k : Int); omega, by show low + (k : Int) ≤ high; omega⟩, ⟨by show (0 : Int) ≤ (d : Int); omega, by show (d : Int) < 4; omega⟩, hr⟩
  · rintro ⟨⟨h1, h2⟩, ⟨h3, h4⟩, h5⟩
    refine ⟨(ca.wind - low).toNat, by omega, ca.dir.toNat, by omega, ca.off, h5, ?_⟩
    obtain ⟨a, b, c⟩ := ca
    simp only at h1 h2 h3 h4 ⊢
    rw [show low + ((a - low).toNat : Int) = a by omega, show ((b.toNat : Nat) : Int) = b by omega]
def leastF : List Int → Int
  | [] => 0
  | a :: r => r.foldl min a
theorem foldl_min (l : List Int) : ∀ a : Int, (l.foldl min a = a ∨ l.foldl min a ∈ l) ∧ l.foldl min a ≤ a ∧ ∀ y ∈ l, l.foldl min a ≤ y := by
  induction l with
  | nil => intro a; exact ⟨.inl rfl, Int.le_refl _, fun _ h => nomatch h⟩
  | cons b l ih =>
    intro a
    obtain ⟨h1, h2, h3⟩ := ih (min a b)
    rw [List.foldl_cons]
    refine ⟨?_, by omega, fun y hy => ?_⟩
    · rcases h1 with h | h
      · rw [h]
        by_cases z : b ≤ a
        · right; rw [show min a b = b by omega]; exact List.mem_cons_self
        · left; omega
      · exact .inr (List.mem_cons_of_mem _ h)
    · rcases List.mem_cons.mp hy with rfl | hy
      · omega
      · exact h3 y hy
theorem leastF_mem {l : List Int} (h : l ≠ []) : leastF l ∈ l ∧ ∀ y ∈ l, leastF l ≤ y := by
  cases l with
  | nil => exact absurd rfl h
  | cons a l =>
    obtain ⟨h1, h2, h3⟩ := foldl_min l a
    refine ⟨?_, fun y hy => ?_⟩
    · rcases h1 with h | h
      · exact List.mem_cons.mpr (.inl h)
      · exact List.mem_cons_of_mem _ h
    · rcases List.mem_cons.mp hy with rfl | hy
      · exact h2
      · exact h3 y hy
theorem leastF_is {l : List Int} {m : Int} (h : m ∈ l) (hl : ∀ y ∈ l, m ≤ y) : m = leastF l := by
  obtain ⟨h1, h2⟩ := leastF_mem (List.ne_nil_of_mem h)
  have a := hl _ h1
  have b := h2 _ h
  omega
theorem leastF_ext {l m : List Int} (h1 : ∀ x ∈ l, x ∈ m) (h2 : ∀ x ∈ m, x ∈ l) : leastF l = leastF m := by
  cases l with
  | nil =>
    cases m with
    | nil => rfl
    | cons a m => exact absurd (h2 a List.mem_cons_self) (by simp)
  | cons a l =>
    obtain ⟨h3, h4⟩ := leastF_mem (l := a :: l) (by simp)
    exact leastF_is (h1 _ h3) fun y hy => h4 y (h2 y hy)
def valsF (f : Farm) (low high stops : Int) (rows : List (List Int)) : List Int := (casesF low high rows).map (outF f)
def worstF (f : Farm) (low high stops : Int) : Int := leastF (valsF f low high stops (rowsF f.ms.length stops))
def bestF (f : Farm) (low high stops : Int) : Int := - leastF ((valsF f low high stops (rowsF f.ms.length stops)).map fun x => -x)
theorem casesF_perm {low high : Int} {rows rows' : List (List Int)} (h : rows.Perm rows') {ca : Case} : ca ∈ casesF low high rows ↔ ca ∈ casesF low high rows' := by
  rw [mem_casesF, mem_casesF, h.mem_iff]
/-- a case with its key -/
abbrev dQ (key : Case → Int) (ca : Case) : PyData := .tuple [.int (key ca), dK ca]
theorem alike_case (a b : Case) : PySem.W.alike (dK a) (dK b) = true := by
  have := alike_rows a.off b.off
  simp [PySem.W.alike, PySem.W.alikeAll] at this ⊢
  exact this
theorem alike_keyed (key : Case → Int) (a b : Case) : PySem.W.alike (dQ key a) (dQ key b) = true := by
  have := alike_case a b
  simp only [dQ, PySem.W.alike, PySem.W.alikeAll, Bool.true_and, Bool.and_true] at this ⊢
  exact this
theorem dataLt_keyed (key : Case → Int) (a b : Case) : (PySem.W.dataLt (dQ key a) (dQ key b) = true → key a ≤ key b) ∧ (PySem.W.dataLt (dQ key a) (dQ key b) = false → key b ≤ key a) := by
  rw [dQ, dQ, PySem.W.dataLt_pair (by simp [PySem.W.alike]) (alike_case a b)]
  by_cases h : key a = key b
  · exact ⟨fun _ => by omega, fun _ => by omega⟩
  · rw [if_neg (by simpa [PyData.eqv] using h), PySem.W.dataLt_int]
    simp
    omega
theorem minD_keyed (key : Case → Int) : ∀ (l : List Case) (a : Case), ∃ b, b ∈ a :: l ∧ PySem.W.minD (dQ key a) (l.map (dQ key)) = dQ key b ∧ ∀ y ∈ a :: l, key b ≤ key y
  | [], a => ⟨a, by simp, rfl, by simp⟩
  | c :: l, a => by
    have e : PySem.W.minD (dQ key a) ((c :: l).map (dQ key)) = PySem.W.minD (if PySem.W.dataLt (dQ key c) (dQ key a) = true then dQ key c else dQ key a) (l.map (dQ key)) := rfl
    obtain ⟨h1, h2⟩ := dataLt_keyed key c a
    cases hd : PySem.W.dataLt (dQ key c) (dQ key a) with
    | true =>
      obtain ⟨b, b1, b2, b3⟩ := minD_keyed key l c
      rw [e, hd, if_pos rfl]
      refine ⟨b, List.mem_cons_of_mem _ b1, b2, fun y hy => ?_⟩
      rcases List.mem_cons.mp hy with rfl | hy
      · exact Int.le_trans (b3 c List.mem_cons_self) (h1 hd)
      · exact b3 y hy
    | false =>
      obtain ⟨b, b1, b2, b3⟩ := minD_keyed key l a
      rw [e, hd, if_neg Bool.false_ne_true]
      refine ⟨b, ?_, b2, fun y hy => ?_⟩
      · rcases List.mem_cons.mp b1 with rfl | b1
        · exact List.mem_cons_self
        · exact List.mem_cons_of_mem _ (List.mem_cons_of_mem _ b1)
      · rcases List.mem_cons.mp hy with rfl | hy
        · exact b3 _ List.mem_cons_self
        · rcases List.mem_cons.mp hy with rfl | hy
          · exact Int.le_trans (b3 a List.mem_cons_self) (h2 hd)
          · exact b3 y (List.mem_cons_of_mem _ hy)
theorem depth_keyed (key : Case → Int) (a : Case) : (dQ key a).depth ≤ 10 := by
  have := depth_ints a.off
  simp only [dQ, PyData.depth, PyData.depthAll]
  omega
theorem depthAll_le {ds : List PyData} {n : Nat} (h : ∀ d ∈ ds, d.depth ≤ n) : PyData.depthAll ds ≤ n := by
  induction ds with
  | nil => simp [PyData.depthAll]
  | cons d ds ih =>
    have h1 := h d List.mem_cons_self
    have h2 := ih fun x hx => h x (List.mem_cons_of_mem _ hx)
    simp only [PyData.depthAll]
    omega
theorem keyed_ask (key : Case → Int) (l : List Case) : PySem.W.AlikeAll (l.map (dQ key)) ∧ PyData.depthAll (l.map (dQ key)) ≤ 30 := by
  refine ⟨⟨fun x hx y hy => ?_, fun x hx => ?_⟩, ?_⟩
  · obtain ⟨a, _, rfl⟩ := List.mem_map.mp hx
    obtain ⟨b, _, rfl⟩ := List.mem_map.mp hy
    exact alike_keyed key a b
  · obtain ⟨a, _, rfl⟩ := List.mem_map.mp hx
    exact fun h => nomatch h
  · refine Nat.le_trans (depthAll_le (n := 10) fun d hd => ?_) (by decide)
    obtain ⟨a, _, rfl⟩ := List.mem_map.mp hd
    exact depth_keyed key a
theorem rowsF_nil (n : Nat) {stops : Int} (h : 0 ≤ stops) : [] ∈ rowsF n stops := by
  obtain ⟨r, e⟩ := subsF_head ((List.range n).map fun (i : Nat) => (i : Int))
  refine List.mem_filter.mpr ⟨by rw [e]; exact List.mem_cons_self, by simpa using h⟩
theorem cases_some {low high : Int} {rows : List (List Int)} (h1 : low ≤ high) (h2 : [] ∈ rows) : ∃ c l, casesF low high rows = c :: l := by
  have : (⟨low, 0, []⟩ : Case) ∈ casesF low high rows := mem_casesF.mpr ⟨⟨Int.le_refl _, h1⟩, ⟨Int.le_refl _, by show (0 : Int) < 4; decide⟩, h2⟩
  cases e : casesF low high rows with
  | nil => rw [e] at this; cases this
  | cons c l => exact ⟨c, l, rfl⟩
/-- the least of the keyed cases, whatever their order -/
theorem min_cases (key : Case → Int) {low high stops : Int} {n : Nat} {rows : List (List Int)} (hp : rows.Perm (rowsF n stops)) (h1 : low ≤ high) (hs : 0 ≤ stops) :
    ∃ d ds', (casesF low high rows).map (dQ key) = d :: ds' ∧ ∃ ca, PySem.W.minD d ds' = dQ key ca ∧ key ca = leastF ((casesF low high (rowsF n stops)).map key) := by
  obtain ⟨c, l, e⟩ := cases_some h1 (hp.mem_iff.mpr (rowsF_nil n hs))
  obtain ⟨b, b1, b2, b3⟩ := minD_keyed key l c
  refine ⟨dQ key c, l.map (dQ key), by rw [e]; rfl, b, b2, leastF_is ?_ fun y hy => ?_⟩
  · exact List.mem_map.mpr ⟨b, (casesF_perm hp).mp (by rw [e]; exact b1), rfl⟩
  · obtain ⟨z, hz, rfl⟩ := List.mem_map.mp hy
    have := (casesF_perm hp).mpr hz
    rw [e] at this
    exact b3 z this
theorem casesF_len {low high : Int} {rows : List (List Int)} (h1 : 0 ≤ low) (h2 : high ≤ 100) (h : rows.length ≤ 1024) : (casesF low high rows).length ≤ 1000000 := by
  have h1 : ∀ (a d : Int), (casesAt a d rows).length ≤ 1024 := fun a d => by rw [casesAt, List.length_map]; exact h
  have h2 : ∀ a : Int, ((List.range 4).flatMap fun (d : Nat) => casesAt a (d : Int) rows).length ≤ 1024 * 4 := fun a => by simpa using flat_le (f := fun (d : Nat) => casesAt a (d : Int) rows) (fun d => h1 a d) (List.range 4)
  have h3 := flat_le (f := fun (k : Nat) => (List.range 4).flatMap fun (d : Nat) => casesAt (low + (k : Int)) (d : Int) rows) (fun k => h2 _) (List.range (high + 1 - low).toNat)
  rw [List.length_range] at h3
  have : 1024 * 4 * (high + 1 - low).toNat ≤ 1024 * 4 * 101 := Nat.mul_le_mul_left _ (by omega)
  unfold casesF
  omega
def g_worst_case (ds : List PyData) (Φ : PyData → Prop) : Prop := ∃ (fm : Farm) (low high stops : Int), ds = [dF fm, .int low, .int high, .int stops] ∧ FarmOk fm ∧ fm.ms.length ≤ 10 ∧ 0 ≤ low ∧ low ≤ high ∧ high ≤ 100 ∧ 0 ≤ stops ∧ ∀ ca : Case, Φ (.tuple [.int (worstF fm low high stops), dK ca])
theorem ok_worst_case (D : Def K mg "worst_case" s_worst_case ["farm", "low", "high", "stops"]) (T : Bi mg) (c_output : Cal P w K mg base 4 "output" (spP K g_output)) (c_cases : Cal P w K mg base 2 "cases" (spP K g_cases)) : Cal P w K mg base 5 "worst_case" (spP K g_worst_case) := by
  have S := sc_worst_case
  refine def_pure D S (fun ds Φ ⟨_, _, _, _, h, _⟩ => by rw [h]; rfl) fun f cdv A outer s H B E ds Φ hr h => ?_
  obtain ⟨fm, low, high, stops, rfl, hf, hn, h1, h2, h3, hs, hq⟩ := h

  refine xb_one ?_
  refine xs_ret ?_
  refine xe_minD rfl hr.units T.min ?_
  refine xq_e ?_
  refine xe_m ?_
  refine xm_lc [("case", 4)] rfl S.nd (blkOk_by rfl) (fun _ h => nomatch h) (lc_pure ?_)
  refine xi_seq ?_
  refine xe_call c_cases (hr.mono (by decide)) ?_
  refine xa_cons ?_
  refine xe_var 1 rfl ?_
  refine xa_cons ?_
  refine xe_var 2 rfl ?_
  refine xa_cons ?_
  refine xe_len T.len ?_
  refine xq_e ?_
  refine xe_ix ?_
  refine xe_var 0 rfl ?_
  refine xe_int ?_
  refine ⟨_, _, _, _, rfl, rfl, rfl, ?_⟩
  refine ⟨_, _, rfl, ?_⟩
  refine xa_cons ?_
  refine xe_var 3 rfl ?_
  refine xa_nil ?_
  rw [List.length_map]
  refine ⟨low, high, fm.ms.length, stops, rfl, hn, h1, by omega, by omega, h3, fun rows hp => ?_⟩
  refine ⟨_, _, rfl, ?_⟩
  have hlr : rows.length ≤ 1024 := by rw [hp.length_eq]; exact rowsF_len _ stops hn
  rw [List.length_map]
  refine ⟨casesF_len h1 h3 hlr, fun _ => true, fun i => dQ (outF fm) ((casesF low high rows).getD i ⟨0, 0, []⟩), fun i hi => ?turn, ?_⟩
  case turn =>
    refine ⟨nomu, fun s1 H1 Ca cl fp C' hC => ?_⟩
    refine xg_eq (getD_mapD ⟨0, 0, []⟩ hi) ?_
    refine xg_name 4 (lq rfl) (fr0 hC) ?_ S.nd
    intro s1 H1 Ca cl fp
    refine xts_nil ?_
    refine ⟨fun hk => (nomatch hk), fun hk s1 H1 Ca cl fp => ?_⟩
    refine xe_tup ?_
    refine xa_cons ?_
    refine xe_call c_output (hr.mono (by decide)) ?_
    refine xa_cons ?_
    refine xe_var 0 rfl ?_
    refine xa_cons ?_
    refine xe_var 4 rfl ?_
    refine xa_nil ?_
    refine ⟨fm, _, rfl, hf, ?_⟩
    refine xa_cons ?_
    refine xe_var 4 rfl ?_
    refine xa_nil ?_
    refine ⟨by simp, ?_⟩
    exact ⟨rfl, rfl, rfl⟩
  refine ⟨_, _, rfl, ?_⟩
  have e1 := map_getD_all (casesF low high rows) ⟨0, 0, []⟩ (dQ (outF fm))
  obtain ⟨d, ds', e2, ca, e3, e4⟩ := min_cases (outF fm) hp h2 hs
  obtain ⟨k1, k2⟩ := keyed_ask (outF fm) (casesF low high rows)
  rw [e1]
  refine ⟨d, ds', rfl, e2, k1, k2, ?_⟩
  rw [e3, dQ, e4]
  exact hq ca

def g_best_case (ds : List PyData) (Φ : PyData → Prop) : Prop := ∃ (fm : Farm) (low high stops : Int), ds = [dF fm, .int low, .int high, .int stops] ∧ FarmOk fm ∧ fm.ms.length ≤ 10 ∧ 0 ≤ low ∧ low ≤ high ∧ high ≤ 100 ∧ 0 ≤ stops ∧ ∀ ca : Case, Φ (.tuple [.int (bestF fm low high stops), dK ca])
theorem ok_best_case (D : Def K mg "best_case" s_best_case ["farm", "low", "high", "stops"]) (T : Bi mg) (c_output : Cal P w K mg base 4 "output" (spP K g_output)) (c_cases : Cal P w K mg base 2 "cases" (spP K g_cases)) : Cal P w K mg base 5 "best_case" (spP K g_best_case) := by
  have S := sc_best_case
  refine def_pure D S (fun ds Φ ⟨_, _, _, _, h, _⟩ => by rw [h]; rfl) fun f cdv A outer s H B E ds Φ hr h => ?_
  obtain ⟨fm, low, high, stops, rfl, hf, hn, h1, h2, h3, hs, hq⟩ := h

  refine xb_cons ?_
  refine xs_asgT [4, 5] ?_
  refine xe_minD rfl hr.units T.min ?_
  refine xq_e ?_
  refine xe_m ?_
  refine xm_lc [("case", 5)] rfl S.nd (blkOk_by rfl) (fun _ h => nomatch h) (lc_pure ?_)
  refine xi_seq ?_
  refine xe_call c_cases (hr.mono (by decide)) ?_
  refine xa_cons ?_
  refine xe_var 1 rfl ?_
  refine xa_cons ?_
  refine xe_var 2 rfl ?_
  refine xa_cons ?_
  refine xe_len T.len ?_
  refine xq_e ?_
  refine xe_ix ?_
  refine xe_var 0 rfl ?_
  refine xe_int ?_
  refine ⟨_, _, _, _, rfl, rfl, rfl, ?_⟩
  refine ⟨_, _, rfl, ?_⟩
  refine xa_cons ?_
  refine xe_var 3 rfl ?_
  refine xa_nil ?_
  rw [List.length_map]
  refine ⟨low, high, fm.ms.length, stops, rfl, hn, h1, by omega, by omega, h3, fun rows hp => ?_⟩
  refine ⟨_, _, rfl, ?_⟩
  have hlr : rows.length ≤ 1024 := by rw [hp.length_eq]; exact rowsF_len _ stops hn
  rw [List.length_map]
  refine ⟨casesF_len h1 h3 hlr, fun _ => true, fun i => dQ (fun c => -outF fm c) ((casesF low high rows).getD i ⟨0, 0, []⟩), fun i hi => ?turn, ?_⟩
  case turn =>
    refine ⟨nomu, fun s1 H1 Ca cl fp C' hC => ?_⟩
    refine xg_eq (getD_mapD ⟨0, 0, []⟩ hi) ?_
    refine xg_name 5 (lq rfl) (fr0 hC) ?_ S.nd
    intro s1 H1 Ca cl fp
    refine xts_nil ?_
    refine ⟨fun hk => (nomatch hk), fun hk s1 H1 Ca cl fp => ?_⟩
    refine xe_tup ?_
    refine xa_cons ?_
    refine xe_neg ?_
    refine xe_call c_output (hr.mono (by decide)) ?_
    refine xa_cons ?_
    refine xe_var 0 rfl ?_
    refine xa_cons ?_
    refine xe_var 5 rfl ?_
    refine xa_nil ?_
    refine ⟨fm, _, rfl, hf, ?_⟩
    refine ⟨_, rfl, ?_⟩
    refine xa_cons ?_
    refine xe_var 5 rfl ?_
    refine xa_nil ?_
    refine ⟨by simp, ?_⟩
    exact ⟨rfl, rfl, rfl⟩
  refine ⟨_, _, rfl, ?_⟩
  have e1 := map_getD_all (casesF low high rows) ⟨0, 0, []⟩ (dQ (fun c => -outF fm c))
  obtain ⟨d, ds', e2, ca, e3, e4⟩ := min_cases (fun c => -outF fm c) hp h2 hs
  obtain ⟨k1, k2⟩ := keyed_ask (fun c => -outF fm c) (casesF low high rows)
  rw [e1]
  refine ⟨d, ds', rfl, e2, k1, k2, ?_⟩
  rw [e3, dQ, e4]
  refine xg_tup rfl ⟨_, rfl, rfl, ?_⟩
  refine xgs_nm 4 (lq rfl) (fr0 rfl) ?_ S.nd
  refine xgs_nm 5 (lq rfl) (fr0 rfl) ?_ S.nd
  refine xgs_nil ?_

  refine xb_one ?_
  refine xs_ret ?_
  refine xe_tup ?_
  refine xa_cons ?_
  refine xe_neg ?_
  refine xe_var 4 rfl ?_
  refine ⟨_, rfl, ?_⟩
  refine xa_cons ?_
  refine xe_var 5 rfl ?_
  refine xa_nil ?_
  refine ⟨by simp, ?_⟩
  have := hq ca
  rw [bestF, valsF, List.map_map] at this
  exact this

def g_sure_outputs (ds : List PyData) (Φ : PyData → Prop) : Prop := ∃ (fm : Farm) (b : List Pr) (step stops : Int), ds = [dF fm, dB b step, .int stops] ∧ FarmOk fm ∧ fm.ms.length ≤ 10 ∧ BoundsOk b step ∧ NoGap b step ∧ 0 ≤ stops ∧ (∀ p ∈ narrowedF b step, 0 ≤ p.1 ∧ p.1 ≤ p.2 ∧ p.2 ≤ 100) ∧ Φ (.list (dI ((narrowedF b step).map fun p => worstF fm p.1 p.2 stops)))
theorem ok_sure_outputs (D : Def K mg "sure_outputs" s_sure_outputs ["farm", "bounds", "stops"]) (T : Bi mg) (c_narrowed : Cal P w K mg base 3 "narrowed" (spP K g_narrowed)) (c_worst_case : Cal P w K mg base 5 "worst_case" (spP K g_worst_case)) : Cal P w K mg base 6 "sure_outputs" (spP K g_sure_outputs) := by
  have S := sc_sure_outputs
  refine def_pure D S (fun ds Φ ⟨_, _, _, _, h, _⟩ => by rw [h]; rfl) fun f cdv A outer s H B E ds Φ hr h => ?_
  obtain ⟨fm, b, step, stops, rfl, hf, hn, hb, hg, hs, hw, hq⟩ := h

  refine xb_one ?_
  refine xs_ret ?_
  refine xe_m ?_
  refine xm_lc [("low", 3), ("high", 4)] rfl S.nd (blkOk_by rfl) (fun _ h => nomatch h) (lc_pure ?_)
  refine xi_seq ?_
  refine xe_call c_narrowed (hr.mono (by decide)) ?_
  refine xa_cons ?_
  refine xe_var 1 rfl ?_
  refine xa_nil ?_
  refine ⟨b, step, rfl, hb, hg, ?_⟩
  refine ⟨_, _, rfl, ?_⟩
  rw [List.length_map]
  have hlb := hb.len
  have hln := narrowedF_len b step
  refine ⟨by omega, fun _ => true, fun i => .int ((fun p : Pr => worstF fm p.1 p.2 stops) ((narrowedF b step).getD i (0, 0))), fun i hi => ?turn, ?_⟩
  case turn =>
    refine ⟨nomu, fun s1 H1 Ca cl fp C' hC => ?_⟩
    refine xg_eq (getD_mapD (0, 0) hi) ?_
    refine xg_tup rfl ⟨_, rfl, rfl, ?_⟩
    refine xgs_nm 3 (lq rfl) (fr0 hC) ?_ S.nd
    refine xgs_nm 4 (lq rfl) (fr0 hC) ?_ S.nd
    refine xgs_nil ?_
    intro s1 H1 Ca cl fp
    refine xts_nil ?_
    refine ⟨fun hk => (nomatch hk), fun hk s1 H1 Ca cl fp => ?_⟩
    refine xe_ix ?_
    refine xe_call c_worst_case (hr.mono (by decide)) ?_
    refine xa_cons ?_
    refine xe_var 0 rfl ?_
    refine xa_cons ?_
    refine xe_var 3 rfl ?_
    refine xa_cons ?_
    refine xe_var 4 rfl ?_
    refine xa_cons ?_
    refine xe_var 2 rfl ?_
    refine xa_nil ?_
    obtain ⟨p1, p2, p3⟩ := hw _ (List.getElem_mem hi)
    have ep : (narrowedF b step).getD i (0, 0) = (narrowedF b step)[i] := by simp [List.getD_eq_getElem?_getD, hi]
    refine ⟨fm, _, _, stops, rfl, hf, hn, by rw [ep]; exact p1, by rw [ep]; exact p2, by rw [ep]; exact p3, hs, fun ca => ?_⟩
    refine xe_int ?_
    refine ⟨_, _, _, _, rfl, rfl, rfl, ?_⟩
    exact ⟨rfl, rfl, rfl⟩
  have e1 := map_getD_all (narrowedF b step) (0, 0) (fun p => PyData.int (worstF fm p.1 p.2 stops))
  rw [dI, List.map_map] at hq
  rw [e1]
  exact hq
end W99
end

section
namespace W99
open PySem L2 Gh
variable {P : Program} {w : World} {K : PySem.W.Frag} {mg : Str → Option Value} {base : Heap}

/-! ### dicts of ints in a row -/
theorem dGet_app (xs ys : List (Key × PyData)) (k : Key) (h : dGet xs k = none) : dGet (xs ++ ys) k = dGet ys k := by
  unfold dGet at h ⊢
  rw [List.find?_append]
  cases e : xs.find? fun kv => decide (kv.1 = k) with
  | none => rfl
  | some z => rw [e] at h; cases h
theorem dGet_none {xs : List (Key × PyData)} {k : Key} (h : ∀ p ∈ xs, p.1 ≠ k) : dGet xs k = none := by
  unfold dGet
  rw [List.find?_eq_none.mpr fun p hp => by simpa using h p hp]
  rfl
theorem dPut_new {xs : List (Key × PyData)} {k : Key} {v : PyData} (h : ∀ p ∈ xs, p.1 ≠ k) : dPut xs k v = xs ++ [(k, v)] := by
  unfold dPut
  rw [if_neg]
  intro z
  obtain ⟨p, hp, e⟩ := List.any_eq_true.mp z
  exact h p hp (by simpa using e)
/-- ways: the winds lo, lo + 1, .. (n of them), each with its number -/
def wayD (lo : Int) (n : Nat) (wv : Int → Int) : List (Key × PyData) := (List.range n).map fun (i : Nat) => (Sum.inl (lo + (i : Int)), .int (wv (lo + (i : Int))))
theorem wayD_len (lo : Int) (n : Nat) (wv : Int → Int) : (wayD lo n wv).length = n := by simp [wayD]
theorem wayD_key {lo : Int} {n : Nat} {wv : Int → Int} {k : Int} (h : lo + n ≤ k) : ∀ p ∈ wayD lo n wv, p.1 ≠ Sum.inl k := by
  intro p hp e
  obtain ⟨i, hi, rfl⟩ := List.mem_map.mp hp
  have := List.mem_range.mp hi
  have e := Sum.inl.inj e
  omega
theorem wayD_succ (lo : Int) (n : Nat) (wv : Int → Int) : wayD lo (n + 1) wv = wayD lo n wv ++ [(Sum.inl (lo + (n : Int)), .int (wv (lo + (n : Int))))] := by
  unfold wayD
  rw [List.range_succ, List.map_append]
  rfl
theorem wayD_put (lo : Int) (n : Nat) (wv : Int → Int) : dPut (wayD lo n wv) (Sum.inl (lo + (n : Int))) (.int (wv (lo + (n : Int)))) = wayD lo (n + 1) wv := by
  rw [dPut_new (wayD_key (Int.le_refl _)), wayD_succ]
theorem wayD_get (lo : Int) (wv : Int → Int) (i : Nat) : ∀ n : Nat, i < n → dGet (wayD lo n wv) (Sum.inl (lo + (i : Int))) = some (.int (wv (lo + (i : Int)))) := by
  intro n
  induction n with
  | zero => intro h; exact absurd h (Nat.not_lt_zero _)
  | succ n ih =>
    intro h
    rw [wayD_succ]
    by_cases e : i = n
    · subst e
      rw [dGet_app _ _ _ (dGet_none (wayD_key (Int.le_refl _)))]
      simp [dGet]
    · have := ih (by omega)
      unfold dGet at this ⊢
      rw [List.find?_append]
      cases e2 : (wayD lo n wv).find? fun kv => decide (kv.1 = Sum.inl (lo + (i : Int))) with
      | none => rw [e2] at this; cases this
      | some z => rw [e2] at this; exact this
theorem wayD_at {lo : Int} {n : Nat} {wv : Int → Int} {i : Nat} (h : i < (wayD lo n wv).length) : (wayD lo n wv)[i].1 = Sum.inl (lo + (i : Int)) := by simp [wayD]
theorem dcF_way (lo : Int) (n : Nat) : dcF (fun i => Sum.inl (lo + (i : Int))) (fun _ => .int 1) n = wayD lo n (fun _ => 1) := by
  induction n with
  | zero => rfl
  | succ n ih => rw [dcF_succ, ih, wayD_put lo n (fun _ => 1)]
def spanF (p : Pr) : Nat := (p.2 + 1 - p.1).toNat
/-- the ways that end at x, from those that end an hour before within p -/
def stepF (step : Int) (p : Pr) (wv : Int → Int) (x : Int) : Int := (((List.range (spanF p)).filter fun (i : Nat) => decide (((p.1 + (i : Int) - x).natAbs : Int) ≤ step)).map fun (i : Nat) => wv (p.1 + (i : Int))).sum
def sumF (p : Pr) (wv : Int → Int) : Int := ((List.range (spanF p)).map fun (i : Nat) => wv (p.1 + (i : Int))).sum
def goF (step : Int) (s : Pr × (Int → Int)) (q : Pr) : Pr × (Int → Int) := (q, stepF step s.1 s.2)
def endF (step : Int) (b : List Pr) : Pr × (Int → Int) := (b.drop 1).foldl (goF step) (hrs b 0, fun _ => 1)
def weathersF (b : List Pr) (step : Int) : Int := sumF (endF step b).1 (endF step b).2
def g_weathers (ds : List PyData) (Φ : PyData → Prop) : Prop := ∃ (b : List Pr) (step : Int), ds = [dB b step] ∧ BoundsOk b step ∧ Φ (.int (weathersF b step))
theorem spanF_le {b : List Pr} {step : Int} (h : BoundsOk b step) {p : Pr} (hp : p ∈ b) : spanF p ≤ 41 := by
  have := h.lo p hp
  unfold spanF
  omega
theorem nomu1 {Γ : GS} {i : Nat} {g : GE} (h : Γ[i]? = some g) (m : g.mu = false) : NoMu Γ [i] := fun j hj g' hg => by
  rcases List.mem_singleton.mp hj with rfl
  rw [h] at hg; cases hg; exact m
theorem hu_of {k : Nat} {A : Around} (hr : Room k A) : A.units + 1 < cLine := Nat.lt_trans (Nat.add_lt_add_left (by decide : 1 < 64) _) hr.units
theorem ok_weathers (D : Def K mg "weathers" s_weathers ["bounds"]) (T : Bi mg) : Cal P w K mg base 1 "weathers" (spP K g_weathers) := by
  have S := sc_weathers
  refine def_pure D S (fun ds Φ ⟨_, _, h, _⟩ => by rw [h]; rfl) fun f cdv A outer s H B E ds Φ hr h => ?_
  obtain ⟨b, step, rfl, hb, hq⟩ := h
  refine xb_cons ?_
  refine xs_asgT [1, 2] ?_
  refine xe_var 0 rfl ?_
  refine xg_tup rfl ⟨_, rfl, rfl, ?_⟩
  refine xgs_nm 1 (lq rfl) (fr0 rfl) ?_ S.nd
  refine xgs_nm 2 (lq rfl) (fr0 rfl) ?_ S.nd
  refine xgs_nil ?_
  have hm0 : hrs b 0 ∈ b := List.mem_of_getElem? (hrs_at hb.pos)
  have hlo0 := hb.lo _ hm0
  refine xb_cons ?_
  refine xs_asgD 3 ?_ S.nd
  refine xd_dc [("wind", 4)] rfl S.nd (blkOk_by rfl) (fun _ h => nomatch h) ?_
  refine xi_range2 T.range ?_
  refine xe_ix ?_
  refine xe_ix ?_
  refine xe_var 1 rfl ?_
  refine xe_int ?_
  refine ⟨_, _, _, _, rfl, rfl, atNM (hrs_at hb.pos) rfl, ?_⟩
  refine xe_int ?_
  refine ⟨_, _, _, _, rfl, rfl, rfl, ?_⟩
  refine xe_add ?_
  refine xe_ix ?_
  refine xe_ix ?_
  refine xe_var 1 rfl ?_
  refine xe_int ?_
  refine ⟨_, _, _, _, rfl, rfl, atNM (hrs_at hb.pos) rfl, ?_⟩
  refine xe_int ?_
  refine ⟨_, _, _, _, rfl, rfl, rfl, ?_⟩
  refine xe_int ?_
  refine ⟨_, _, rfl, rfl, ?_⟩
  refine ⟨_, _, rfl, rfl, by omega, by omega, by omega, by omega, by omega, fun i => Sum.inl ((hrs b 0).1 + (i : Int)), fun _ => .int 1, fun i hi => ?_, ?_⟩
  · refine ⟨nomu, fun s1 H1 Ca cl fp C' hC => ?_⟩
    refine xg_name 4 (lq rfl) (fr0 hC) ?_ S.nd
    intro s1 H1 Ca cl fp
    refine xe_var 4 rfl ?_
    refine ⟨rfl, fun s1 H1 Ca cl fp => ?_⟩
    exact xe_int ⟨rfl, rfl⟩
  rw [dcF_way]
  refine ⟨lq rfl, fr0 rfl, ?_⟩
  refine xb_cons ?_
  refine xs_for [5, 6] PassesOwn.never rfl ?_
  refine xi_seq ?_
  refine xe_slT ?_
  refine xe_var 1 rfl ?_
  refine xo_some ?_
  refine xe_int ?_
  refine ⟨_, rfl, ?_⟩
  refine xo_none ?_
  refine ⟨_, rfl, ?_⟩
  refine ⟨_, _, rfl, ?_⟩
  have hlen := hb.len
  rw [cutD_drop (i := 1) (k := 1) _ rfl, ← List.map_drop, List.length_map]
  refine ⟨fun i Γ => ∃ s : Pr × (Int → Int), s.1 ∈ b ∧ s = ((b.drop 1).take i).foldl (goF step) (hrs b 0, fun _ => 1) ∧ ∃ a c d e, Γ = [.val (dB b step), .val (.tuple (b.map dP)), .val (.int step), .dct (wayD s.1.1 (spanF s.1) s.2), a, c, d, e, .no] ∧ GE.mu a = false, ⟨(hrs b 0, fun _ => 1), hm0, rfl, _, _, _, _, rfl, rfl⟩, fun i Γ2 hi hP => ?_, fun Γ2 hP => ?_⟩
  · obtain ⟨s, hs, es, _, _, _, _, rfl, ma⟩ := hP
    have hi0 := hi
    rw [List.length_drop] at hi
    have hmem : b[i + 1] ∈ b := List.getElem_mem (by omega)
    have hlo := hb.lo _ hmem
    have hsl := hb.lo _ hs
    have hsp := spanF_le hb hs
    refine xg_eq (d' := dP b[i + 1]) (by show (List.map dP (List.drop 1 b)).getD i _ = _; rw [getD_map hi0]; simp [Nat.add_comm]) ?_
    refine xg_tup rfl ⟨_, rfl, rfl, ?_⟩
    refine xgs_nm 5 (lq rfl) (fr0 rfl) ?_ S.nd
    refine xgs_nm 6 (lq rfl) (fr0 rfl) ?_ S.nd
    refine xgs_nil ?_
    refine xb_cons ?_
    refine xs_asgD 7 ?_ S.nd
    refine xd_new ?_
    refine ⟨lq rfl, fr0 rfl, ?_⟩
    refine xb_cons ?_
    refine xs_for [4] PassesOwn.never rfl ?_
    refine xi_range2 T.range ?_
    refine xe_var 5 rfl ?_
    refine xe_add ?_
    refine xe_var 6 rfl ?_
    refine xe_int ?_
    refine ⟨_, _, rfl, rfl, ?_⟩
    refine ⟨_, _, rfl, rfl, by omega, by omega, by omega, by omega, ?_⟩
    refine ⟨fun k Γ => ∃ a c, Γ = [.val (dB b step), .val (.tuple (b.map dP)), .val (.int step), .dct (wayD s.1.1 (spanF s.1) s.2), a, .val (.int b[i + 1].1), .val (.int b[i + 1].2), .dct c, .no] ∧ GE.mu a = false ∧ c = wayD b[i + 1].1 k (stepF step s.1 s.2), ⟨_, _, rfl, ma, rfl⟩, fun k Γ2 hk hP => ?_, fun Γ2 hP => ?_⟩
    · obtain ⟨_, c, rfl, ma, ec⟩ := hP
      have hk : k < 41 := by omega
      refine xg_name 4 (lq rfl) (fr0 rfl) ?_ S.nd
      refine xb_one ?_
      refine xs_dput 7 (hu_of hr) ?_
      refine xe_sum rfl T.sum ?_
      refine xq_e ?_
      refine xe_m ?_
      refine xm_lcKeys 3 [("other", 8)] rfl S.nd (blkOk_by rfl) (fun _ h => nomatch h) rfl (fun _ h => nomatch h) (by rw [wayD_len]; omega) (fun j => decide (((s.1.1 + (j : Int) - (b[i + 1].1 + (k : Int))).natAbs : Int) ≤ step)) (fun j => .int (s.2 (s.1.1 + (j : Int)))) (fun j hj => ?_) ?_
      · refine ⟨nomu, fun s1 H1 Ca cl fp C' hC => ?_⟩
        have hjj := wayD_at hj
        rw [wayD_len] at hj
        refine xg_eq (d' := .int (s.1.1 + (j : Int))) (by rw [hjj]; rfl) ?_
        refine xg_name 8 (lq rfl) (fr0 hC) ?_ S.nd
        intro s1 H1 Ca cl fp
        refine xts_one ?_
        refine xt_le ?_
        refine xe_abs T.abs ?_
        refine xe_sub ?_
        refine xe_var 8 rfl ?_
        refine xe_var 4 rfl ?_
        refine ⟨_, _, rfl, rfl, ?_⟩
        refine ⟨_, rfl, ?_⟩
        refine xe_var 2 rfl ?_
        refine ⟨_, _, rfl, rfl, ?_⟩
        refine ⟨fun hk => ⟨rfl, hk⟩, fun hk s1 H1 Ca cl fp => ?_⟩
        refine xe_dget 3 (hu_of hr) ?_ ⟨_, .inr rfl⟩
        refine xe_var 8 rfl ?_
        refine ⟨_, _, _, .inr rfl, rfl, wayD_get _ _ j _ hj, ?_⟩
        exact ⟨rfl, hk, rfl⟩
      refine ⟨_, _, rfl, ?_⟩
      rw [wayD_len]
      refine ⟨((List.range (spanF s.1)).filter fun (j : Nat) => decide (((s.1.1 + (j : Int) - (b[i + 1].1 + (k : Int))).natAbs : Int) ≤ step)).map fun (j : Nat) => s.2 (s.1.1 + (j : Int)), rfl, by rw [List.map_map]; rfl, ⟨_, rfl⟩, ?_⟩
      refine xe_var 4 rfl ?_
      refine ⟨_, _, rfl, rfl, by rw [ec, wayD_len]; omega, ?_⟩
      refine ⟨_, _, rfl, rfl, ?_⟩
      rw [ec, ← wayD_put b[i + 1].1 k (stepF step s.1 s.2)]
      rfl
    obtain ⟨_, c, rfl, ma, rfl⟩ := hP
    refine xb_one ?_
    refine xs_mvD 3 7 rfl (lq rfl) (fun _ h => nomatch h) (fun _ h => nomatch h) ?_ S.nd
    refine ⟨goF step s b[i + 1], hmem, ?_, _, _, _, _, rfl, ma⟩
    rw [take_one hi0, List.foldl_append, ← es]
    simp [Nat.add_comm]
  obtain ⟨s, hs, es, _, _, _, _, rfl, ma⟩ := hP
  rw [List.take_length] at es
  have hsl := hb.lo _ hs
  have hsp := spanF_le hb hs
  refine xb_one ?_
  refine xs_ret ?_
  refine xe_sum rfl T.sum ?_
  refine xq_e ?_
  refine xe_m ?_
  refine xm_lcKeys 3 [("wind", 4)] rfl S.nd (blkOk_by rfl) (fun _ h => nomatch h) rfl (fun _ h => nomatch h) (by rw [wayD_len]; omega) (fun _ => true) (fun j => .int (s.2 (s.1.1 + (j : Int)))) (fun j hj => ?_) ?_
  · refine ⟨nomu1 rfl ma, fun s1 H1 Ca cl fp C' hC => ?_⟩
    have hjj := wayD_at hj
    rw [wayD_len] at hj
    refine xg_eq (d' := .int (s.1.1 + (j : Int))) (by rw [hjj]; rfl) ?_
    refine xg_name 4 (lq rfl) (fr0 hC) ?_ S.nd
    intro s1 H1 Ca cl fp
    refine xts_nil ?_
    refine ⟨fun hk => (nomatch hk), fun hk s1 H1 Ca cl fp => ?_⟩
    refine xe_dget 3 (hu_of hr) ?_ ⟨_, .inr rfl⟩
    refine xe_var 4 rfl ?_
    refine ⟨_, _, _, .inr rfl, rfl, wayD_get _ _ j _ hj, ?_⟩
    exact ⟨rfl, rfl, rfl⟩
  refine ⟨_, _, rfl, ?_⟩
  rw [wayD_len, filter_all]
  refine ⟨(List.range (spanF s.1)).map fun (j : Nat) => s.2 (s.1.1 + (j : Int)), rfl, by rw [List.map_map]; rfl, ?_⟩
  rw [weathersF, endF, ← es] at hq
  exact hq
end W99
end

section
namespace W99
open PySem L2 Gh
variable {P : Program} {w : World} {K : PySem.W.Frag} {mg : Str → Option Value} {base : Heap}

/-! ### orders -/
def ordersF : Nat → List Str → List (List Str)
  | 0, _ => [[]]
  | n + 1, os => if os.length = 0 then [[]] else os.flatMap fun o => (ordersF n (os.filter fun p => !decide (p = o))).map (o :: ·)
theorem ordersF_len : ∀ (n : Nat) (os : List Str), os.length ≤ 10 → (ordersF n os).length ≤ 10 ^ n
  | 0, _, _ => by simp [ordersF]
  | n + 1, os, h => by
    unfold ordersF
    split
    · have : 0 < 10 ^ (n + 1) := Nat.pow_pos (by decide)
      simp
      omega
    · have h1 := flat_le (f := fun o => (ordersF n (os.filter fun p => !decide (p = o))).map (o :: ·)) (m := 10 ^ n) (fun o => by
        rw [List.length_map]
        exact ordersF_len n _ (Nat.le_trans (List.length_filter_le _ _) h)) os
      refine Nat.le_trans h1 ?_
      rw [Nat.pow_succ]
      exact Nat.mul_le_mul_left _ h
theorem ordersF_mem : ∀ (n : Nat) (os r : List Str), r ∈ ordersF n os → (∀ c ∈ r, c ∈ os) ∧ r.length ≤ n
  | 0, os, r, h => by
    rcases List.mem_singleton.mp h with rfl
    exact ⟨fun c hc => (nomatch hc), Nat.le_refl _⟩
  | n + 1, os, r, h => by
    unfold ordersF at h
    split at h
    · rcases List.mem_singleton.mp h with rfl
      exact ⟨fun c hc => (nomatch hc), Nat.zero_le _⟩
    · obtain ⟨o, ho, h⟩ := List.mem_flatMap.mp h
      obtain ⟨q, hq, rfl⟩ := List.mem_map.mp h
      obtain ⟨h1, h2⟩ := ordersF_mem n _ q hq
      refine ⟨fun c hc => ?_, by rw [List.length_cons]; omega⟩
      rcases List.mem_cons.mp hc with rfl | hc
      · exact ho
      · exact (List.mem_filter.mp (h1 c hc)).1
abbrev dT (os : List Str) : PyData := .tuple (dS os)
def g_orders (n : Nat) (ds : List PyData) (Φ : PyData → Prop) : Prop := ∃ os : List Str, ds = [.list (dS os)] ∧ os.length ≤ n ∧ n ≤ 3 ∧ Φ (.list ((ordersF n os).map dT))
def ordAt (n : Nat) (os : List Str) (o : Str) : List (List Str) := (ordersF n (os.filter fun p => !decide (p = o))).map (o :: ·)
theorem filter_less {os : List Str} {o : Str} (h : o ∈ os) : (os.filter fun p => !decide (p = o)).length < os.length := by
  rcases Nat.lt_or_ge (os.filter fun p => !decide (p = o)).length os.length with h1 | h1
  · exact h1
  · have h2 := List.length_filter_le (fun p => !decide (p = o)) os
    have h3 : os.filter (fun p => !decide (p = o)) = os := List.filter_eq_self.mpr (List.length_filter_eq_length_iff.mp (by omega))
    rw [← h3] at h
    have := (List.mem_filter.mp h).2
    simp at this
theorem ordersF_zero (n : Nat) {os : List Str} (h : os.length = 0) : ordersF n os = [[]] := by
  cases n with
  | zero => rfl
  | succ n => rw [ordersF, if_pos h]
theorem ok_orders (D : Def K mg "orders" s_orders ["items"]) (T : Bi mg) (n : Nat) (c_orders : ∀ m, n = m + 1 → Cal P w K mg base (m + 1) "orders" (spP K (g_orders m))) : Cal P w K mg base (n + 1) "orders" (spP K (g_orders n)) := by
  have S := sc_orders
  refine def_pure D S (fun ds Φ ⟨_, h, _⟩ => by rw [h]; rfl) fun f cdv A outer s H B E ds Φ hr h => ?_
  obtain ⟨os, rfl, hl, hn, hq⟩ := h
  refine xb_cons ?_
  refine xs_if ?_
  refine xt_eqI ?_
  refine xe_len T.len ?_
  refine xq_e ?_
  refine xe_var 0 rfl ?_
  refine ⟨_, _, rfl, ?_⟩
  refine xe_int ?_
  refine ⟨_, _, rfl, rfl, ?_⟩
  refine ⟨fun hc => ?_, fun hc => ?_⟩
  ·
    refine xb_one ?_
    refine xs_ret ?_
    refine xe_m (xm_lst ?_)
    refine xa_cons ?_
    refine xe_tup ?_
    refine xa_nil ?_
    refine ⟨by simp, ?_⟩
    refine xa_nil ?_
    refine ⟨by simp, ?_⟩
    have hc : os.length = 0 := by simpa using hc
    rw [ordersF_zero n hc] at hq
    exact hq
  refine xb_nil ?_
  refine xb_cons ?_
  refine xs_asgM 1 ?_ S.nd
  refine (xm_lst ?_)
  refine xa_nil ?_
  refine ⟨by simp, ?_⟩
  refine ⟨lq rfl, fr0 rfl, ?_⟩
  refine xb_cons ?_
  refine xs_for [2] PassesOwn.never rfl ?_
  refine xi_seq ?_
  refine xe_var 0 rfl ?_
  refine ⟨_, _, rfl, ?_⟩
  have hc : os.length ≠ 0 := by simpa using hc
  rw [List.length_map]
  obtain ⟨m, rfl⟩ : ∃ m, n = m + 1 := ⟨n - 1, by omega⟩
  refine ⟨fun i Γ => ∃ acc a, Γ = [.val (.list (dS os)), .lst acc, a, .no, .no] ∧ acc = ((os.take i).flatMap (ordAt m os)).map dT, ⟨_, _, rfl, rfl⟩, fun i Γ2 hi hP => ?_, fun Γ2 hP => ?_⟩
  · obtain ⟨acc, _, rfl, ea⟩ := hP
    have hlt := filter_less (List.getElem_mem hi)
    have hlen : acc.length ≤ 3000 := by
      have h1 := flat_le (f := ordAt m os) (m := 10 ^ m) (fun o => by
        unfold ordAt
        rw [List.length_map]
        exact ordersF_len m _ (Nat.le_trans (List.length_filter_le _ _) (by omega))) (os.take i)
      rw [ea, List.length_map]
      have h2 : 10 ^ m ≤ 10 ^ 2 := Nat.pow_le_pow_right (by decide) (by omega)
      have h3 : (os.take i).length ≤ 3 := by rw [List.length_take]; omega
      have h4 : 10 ^ m * (os.take i).length ≤ 10 ^ 2 * 3 := Nat.mul_le_mul h2 h3
      omega
    refine xg_eq (getD_map hi) ?_
    refine xg_name 2 (lq rfl) (fr0 rfl) ?_ S.nd
    refine xb_one ?_
    refine xs_extend 1 ?_
    refine xm_lc [("row", 3)] rfl S.nd (blkOk_by rfl) (fun _ h => nomatch h) (lc_pure ?_)
    refine xi_seq ?_
    refine xe_call (c_orders m rfl) hr ?_
    refine xa_cons ?_
    refine xe_m ?_
    refine xm_lc [("other", 4)] rfl S.nd (blkOk_by rfl) (fun _ h => nomatch h) (lc_pure ?_)
    refine xi_seq ?_
    refine xe_var 0 rfl ?_
    refine ⟨_, _, rfl, ?_⟩
    rw [List.length_map]
    refine ⟨by omega, fun j => !decide (os.getD j (Str.ofString "") = os[i]), fun j => .str (os.getD j (Str.ofString "")), fun j hj => ?turn, ?_⟩
    case turn =>
      refine ⟨nomu, fun s1 H1 Ca cl fp C' hC => ?_⟩
      refine xg_eq (getD_mapD (Str.ofString "") hj) ?_
      refine xg_name 4 (lq rfl) (fr0 hC) ?_ S.nd
      intro s1 H1 Ca cl fp
      refine xts_one ?_
      refine xt_neS ?_
      refine xe_var 4 rfl ?_
      refine xe_var 2 rfl ?_
      refine ⟨_, _, rfl, rfl, ?_⟩
      refine ⟨fun hk => ⟨rfl, hk⟩, fun hk s1 H1 Ca cl fp => ?_⟩
      refine xe_var 4 rfl ?_
      exact ⟨rfl, hk, rfl⟩
    refine xa_nil ?_
    have e1 := range_filter_map os (Str.ofString "") (fun o => !decide (o = os[i])) PyData.str
    rw [e1]
    refine ⟨os.filter fun o => !decide (o = os[i]), rfl, by omega, by omega, ?_⟩
    refine ⟨_, _, rfl, ?_⟩
    rw [List.length_map]
    have hl2 : (ordersF m (os.filter fun o => !decide (o = os[i]))).length ≤ 1000 := Nat.le_trans (ordersF_len m _ (by omega)) (Nat.pow_le_pow_right (by decide) (by omega : m ≤ 3))
    refine ⟨by omega, fun _ => true, fun j => dT (os[i] :: ((ordersF m (os.filter fun o => !decide (o = os[i]))).getD j [])), fun j hj => ?turn, ?_⟩
    case turn =>
      refine ⟨nomu, fun s1 H1 Ca cl fp C' hC => ?_⟩
      refine xg_eq (getD_mapD [] hj) ?_
      refine xg_name 3 (lq rfl) (fr0 hC) ?_ S.nd
      intro s1 H1 Ca cl fp
      refine xts_nil ?_
      refine ⟨fun hk => (nomatch hk), fun hk s1 H1 Ca cl fp => ?_⟩
      refine xe_catT ?_
      refine xe_tup ?_
      refine xa_cons ?_
      refine xe_var 2 rfl ?_
      refine xa_nil ?_
      refine ⟨by simp, ?_⟩
      refine xe_var 3 rfl ?_
      refine ⟨_, _, rfl, rfl, ?_, ?_⟩
      · have hr2 := (ordersF_mem m _ _ (List.getElem_mem hj)).2
        simp only [List.getD_eq_getElem?_getD, List.getElem?_eq_getElem hj, Option.getD_some, List.length_map, List.length_singleton]
        omega
      exact ⟨rfl, rfl, rfl⟩
    have e2 := map_getD_all (ordersF m (os.filter fun o => !decide (o = os[i]))) [] (fun r => dT (os[i] :: r))
    rw [e2]
    refine ⟨_, rfl, by rw [List.length_map]; omega, ?_⟩
    refine ⟨_, _, rfl, ?_⟩
    rw [take_one hi, List.flatMap_append, List.map_append, ea]
    congr 1
    rw [List.flatMap_singleton]
    unfold ordAt
    rw [List.map_map]
    rfl
  obtain ⟨acc, _, rfl, ea⟩ := hP
  refine xb_one ?_
  refine xs_ret ?_
  refine xe_frz 1 rfl (fun _ h => nomatch h) ?_
  rw [ea, List.take_length]
  have e3 : ordersF (m + 1) os = os.flatMap (ordAt m os) := by
    rw [ordersF, if_neg hc]
    rfl
  rw [e3] at hq
  exact hq
theorem ok_orders_all (D : Def K mg "orders" s_orders ["items"]) (T : Bi mg) : ∀ n, Cal P w K mg base (n + 1) "orders" (spP K (g_orders n))
  | 0 => ok_orders D T 0 fun m h => by omega
  | n + 1 => ok_orders D T (n + 1) fun m h => by
    have e : m = n := by omega
    subst e
    exact ok_orders_all D T m
end W99
end

section
namespace W99
open PySem L2 Gh
variable {P : Program} {w : World} {K : PySem.W.Frag} {mg : Str → Option Value} {base : Heap}

/-! ### what is lost to each cause -/
def CA : List Str := ["cap", "stop", "wake"]
def sumD (f : Str → Int) : List (Key × PyData) := CA.map fun c => (Sum.inr c, .int (f c))
def addF (f : Str → Int) (p : Str × Int) : Str → Int := fun d => if d = p.1 then f d + p.2 else f d
def rowF (G : List Str → Int) (f : Str → Int) (os : List Str) : Str → Int := (os.zip (lostF G os)).foldl addF f
def allF (G : List Str → Int) : Str → Int := (ordersF 3 CA).foldl (rowF G) fun _ => 0
def fairF (G : List Str → Int) : List Pr := CA.map fun c => (allF G c / Int.gcd (allF G c) 6, 6 / Int.gcd (allF G c) 6)
theorem sumD_get {f : Str → Int} {c : Str} (h : c ∈ CA) : dGet (sumD f) (Sum.inr c) = some (.int (f c)) := by
  unfold sumD
  generalize CA = cs at h ⊢
  induction cs with
  | nil => cases h
  | cons a cs ih =>
    unfold dGet
    rw [List.map_cons, List.find?_cons]
    by_cases e : a = c
    · subst e
      rw [decide_eq_true rfl]
      rfl
    · rw [decide_eq_false (fun z => e (Sum.inr.inj z))]
      rcases List.mem_cons.mp h with rfl | h
      · exact absurd rfl e
      · exact ih h
theorem sumD_put {f : Str → Int} {c : Str} {x : Int} (h : c ∈ CA) : dPut (sumD f) (Sum.inr c) (.int (f c + x)) = sumD (addF f (c, x)) := by
  have ha : ((sumD f).any fun kv => decide (kv.1 = Sum.inr c)) = true := List.any_eq_true.mpr ⟨(Sum.inr c, .int (f c)), List.mem_map.mpr ⟨c, h, rfl⟩, by simp⟩
  unfold dPut
  rw [if_pos ha]
  unfold sumD
  rw [List.map_map]
  refine List.map_congr_left fun d _ => ?_
  show (if (Sum.inr d : Key) = Sum.inr c then ((Sum.inr d : Key), PyData.int (f c + x)) else (Sum.inr d, PyData.int (f d))) = (Sum.inr d, .int (addF f (c, x) d))
  unfold addF
  by_cases e : d = c
  · subst e
    simp
  · rw [if_neg (fun z => e (Sum.inr.inj z)), if_neg e]
def g_fair_losses (ds : List PyData) (Φ : PyData → Prop) : Prop := ∃ (fm : Farm) (ca : Case) (cap : Int), ds = [dF fm, dK ca, .int cap] ∧ FarmOk fm ∧ Φ (.list ((fairF (givesF fm ca cap)).map dP))
theorem lostF_len (G : List Str → Int) (os : List Str) : (lostF G os).length = os.length := by simp [lostF]
theorem rows6 : (ordersF 3 CA).length = 6 := by decide +kernel
theorem fill0 : dcF (fun i => Sum.inr (CA.getD i "")) (fun _ => .int 0) 3 = sumD fun _ => 0 := by rfl
theorem ok_fair_losses (D : Def K mg "fair_losses" s_fair_losses ["farm", "case", "cap"]) (T : Bi mg) (g_CAUSES : Gk K mg "CAUSES" (.tuple (dS CA))) (c_orders : Cal P w K mg base 4 "orders" (spP K (g_orders 3))) (c_lost_in_order : Cal P w K mg base 6 "lost_in_order" (spP K g_lost_in_order)) (c_fraction : Cal P w K mg base 2 "fraction" (spP K g_fraction)) : Cal P w K mg base 7 "fair_losses" (spP K g_fair_losses) := by
  have S := sc_fair_losses
  refine def_pure D S (fun ds Φ ⟨_, _, _, h, _⟩ => by rw [h]; rfl) fun f cdv A outer s H B E ds Φ hr h => ?_
  obtain ⟨fm, ca, cap, rfl, hf, hq⟩ := h
  refine xb_cons ?_
  refine xs_asgD 3 ?_ S.nd
  refine xd_dc [("cause", 4)] rfl S.nd (blkOk_by rfl) (fun _ h => nomatch h) ?_
  refine xi_seq ?_
  refine xe_const g_CAUSES ?_
  refine ⟨_, _, rfl, by decide, fun i => Sum.inr (CA.getD i ""), fun _ => .int 0, fun i hi => ?_, ?_⟩
  · refine ⟨nomu, fun s1 H1 Ca cl fp C' hC => ?_⟩
    refine xg_eq (getD_mapD (xs := CA) (f := PyData.str) "" hi) ?_
    refine xg_name 4 (lq rfl) (fr0 hC) ?_ S.nd
    intro s1 H1 Ca cl fp
    refine xe_var 4 rfl ?_
    refine ⟨rfl, fun s1 H1 Ca cl fp => ?_⟩
    exact xe_int ⟨rfl, rfl⟩
  rw [show (dS CA).length = 3 from rfl, fill0]
  refine ⟨lq rfl, fr0 rfl, ?_⟩
  refine xb_cons ?_
  refine xs_asg 5 ?_ S.nd
  refine xe_call c_orders (hr.mono (by decide)) ?_
  refine xa_cons ?_
  refine xe_m (xm_listOf T.list ?_)
  refine xq_e ?_
  refine xe_const g_CAUSES ?_
  refine ⟨_, _, rfl, ?_⟩
  refine xa_nil ?_
  refine ⟨CA, rfl, by decide, by decide, ?_⟩
  refine ⟨lq rfl, fr0 rfl, ?_⟩
  refine xb_cons ?_
  refine xs_for [6] PassesOwn.never rfl ?_
  refine xi_seq ?_
  refine xe_var 5 rfl ?_
  refine ⟨_, _, rfl, ?_⟩
  rw [List.length_map]
  refine ⟨fun i Γ => ∃ sf a b c, Γ = [.val (dF fm), .val (dK ca), .val (.int cap), .dct (sumD sf), a, .val (.list ((ordersF 3 CA).map dT)), b, c] ∧ GE.mu a = false ∧ sf = ((ordersF 3 CA).take i).foldl (rowF (givesF fm ca cap)) fun _ => 0, ⟨_, _, _, _, rfl, rfl, rfl⟩, fun i Γ2 hi hP => ?_, fun Γ2 hP => ?_⟩
  · obtain ⟨sf0, _, _, _, rfl, ma, es0⟩ := hP
    have hor := ordersF_mem 3 CA _ (List.getElem_mem hi)
    obtain ⟨os, eos⟩ : ∃ os, os = (ordersF 3 CA)[i] := ⟨_, rfl⟩
    rw [← eos] at hor
    refine xg_eq (d' := dT os) (by show (List.map dT (ordersF 3 CA)).getD i _ = _; rw [getD_map hi, eos]) ?_
    refine xg_name 6 (lq rfl) (fr0 rfl) ?_ S.nd
    refine xb_one ?_
    refine xs_for [4, 7] PassesOwn.never rfl ?_
    refine xi_zipM T.zip ?_
    refine xa_cons ?_
    refine xe_var 6 rfl ?_
    refine xa_cons ?_
    refine xe_call c_lost_in_order (hr.mono (by decide)) ?_
    refine xa_cons ?_
    refine xe_var 0 rfl ?_
    refine xa_cons ?_
    refine xe_var 1 rfl ?_
    refine xa_cons ?_
    refine xe_var 2 rfl ?_
    refine xa_cons ?_
    refine xe_var 6 rfl ?_
    refine xa_nil ?_
    refine ⟨fm, ca, cap, os, rfl, hf, by omega, ?_⟩
    refine xa_nil ?_
    refine ⟨_, _, rfl, ?_⟩
    rw [List.length_map, List.length_map, lostF_len, Nat.min_self]
    refine ⟨fun j Γ => ∃ sf a c, Γ = [.val (dF fm), .val (dK ca), .val (.int cap), .dct (sumD sf), a, .val (.list ((ordersF 3 CA).map dT)), .val (dT os), c] ∧ GE.mu a = false ∧ sf = ((os.zip (lostF (givesF fm ca cap) os)).take j).foldl addF sf0, ⟨_, _, _, rfl, ma, rfl⟩, fun j Γ2 hj hP => ?_, fun Γ2 hP => ?_⟩
    · obtain ⟨sf, _, _, rfl, ma, esf⟩ := hP
      have hj2 : j < (os.zip (lostF (givesF fm ca cap) os)).length := by rw [List.length_zip, lostF_len]; omega
      have hj3 : j < (lostF (givesF fm ca cap) os).length := by rw [lostF_len]; exact hj
      have hmem : os[j] ∈ CA := hor.1 _ (List.getElem_mem hj)
      refine xg_eq (d' := .tuple [.str os[j], .int ((lostF (givesF fm ca cap) os)[j])]) (by show PyData.tuple [(List.map PyData.str os).getD j _, (List.map PyData.int (lostF (givesF fm ca cap) os)).getD j _] = _; rw [getD_map hj, getD_map hj3]) ?_
      refine xg_tup rfl ⟨_, rfl, rfl, ?_⟩
      refine xgs_nm 4 (lq rfl) (fr0 rfl) ?_ S.nd
      refine xgs_nm 7 (lq rfl) (fr0 rfl) ?_ S.nd
      refine xgs_nil ?_
      refine xb_one ?_
      refine xs_daug 3 (hu_of hr) ⟨_, rfl⟩ ?_
      refine xe_var 4 rfl ?_
      refine ⟨_, _, _, rfl, rfl, sumD_get hmem, ?_⟩
      refine xe_var 7 rfl ?_
      refine ⟨_, _, rfl, rfl, by rw [sumD, List.length_map]; decide, ?_⟩
      rw [sumD_put hmem]
      refine ⟨_, _, _, rfl, rfl, ?_⟩
      rw [take_one hj2, List.foldl_append, List.getElem_zip, ← esf]
      rfl
    obtain ⟨sf, _, _, rfl, ma, esf⟩ := hP
    have hz : (os.zip (lostF (givesF fm ca cap) os)).take os.length = os.zip (lostF (givesF fm ca cap) os) := List.take_of_length_le (by rw [List.length_zip, lostF_len]; omega)
    rw [hz] at esf
    refine ⟨sf, _, _, _, rfl, ma, ?_⟩
    rw [take_one hi, List.foldl_append, ← eos, esf, es0]
    rfl
  obtain ⟨sf0, _, _, _, rfl, ma, es0⟩ := hP
  rw [List.take_length] at es0
  have es0 : sf0 = allF (givesF fm ca cap) := es0
  subst es0
  refine xb_one ?_
  refine xs_ret ?_
  refine xe_m ?_
  refine xm_lc [("cause", 4)] rfl S.nd (blkOk_by rfl) (fun _ h => nomatch h) (lc_pure ?_)
  refine xi_seq ?_
  refine xe_const g_CAUSES ?_
  refine ⟨_, _, rfl, ?_⟩
  refine ⟨by decide, fun _ => true, fun i => (fun c => dP (allF (givesF fm ca cap) c / Int.gcd (allF (givesF fm ca cap) c) 6, 6 / Int.gcd (allF (givesF fm ca cap) c) 6)) (CA.getD i ""), fun i hi => ?turn, ?_⟩
  case turn =>
    have hmem : CA.getD i "" ∈ CA := by
      have hi' : i < CA.length := hi
      rw [List.getD_eq_getElem?_getD, List.getElem?_eq_getElem hi']
      exact List.getElem_mem hi'
    refine ⟨nomu1 rfl ma, fun s1 H1 Ca cl fp C' hC => ?_⟩
    refine xg_eq (getD_mapD (xs := CA) (f := PyData.str) "" hi) ?_
    refine xg_name 4 (lq rfl) (fr0 hC) ?_ S.nd
    intro s1 H1 Ca cl fp
    refine xts_nil ?_
    refine ⟨fun hk => (nomatch hk), fun hk s1 H1 Ca cl fp => ?_⟩
    refine xe_call c_fraction (hr.mono (by decide)) ?_
    refine xa_cons ?_
    refine xe_dget 3 (hu_of hr) ?_ ⟨_, .inl rfl⟩
    refine xe_var 4 rfl ?_
    refine ⟨_, _, _, .inl rfl, rfl, sumD_get hmem, ?_⟩
    refine xa_cons ?_
    refine xe_len T.len ?_
    refine xq_e ?_
    refine xe_var 5 rfl ?_
    refine ⟨_, _, rfl, ?_⟩
    refine xa_nil ?_
    rw [List.length_map, rows6]
    refine ⟨_, _, rfl, by decide, by decide, ?_⟩
    exact ⟨rfl, rfl, rfl⟩
  have e1 := map_getD_all CA "" (fun c => dP (allF (givesF fm ca cap) c / Int.gcd (allF (givesF fm ca cap) c) 6, 6 / Int.gcd (allF (givesF fm ca cap) c) 6))
  rw [fairF, List.map_map] at hq
  rw [show (dS CA).length = CA.length from rfl, e1]
  exact hq
end W99
end

section
namespace W99
open PySem L2 Gh
variable {P : Program} {w : World} {K : PySem.W.Frag} {mg : Str → Option Value} {base : Heap}
/-! ### what the law compares -/
theorem xe_eqS {X : Cx} {C : GC} {Γ : GS} {a b : Expr} {pos : Pos} {Φ : PK} (h : Xe X C a Γ fun x Γ1 => Xe X C b Γ1 fun y Γ2 => ∃ i j, x = .str i ∧ y = .str j ∧ Φ (.bool (decide (i = j))) Γ2) : Xe X C (.Compare a [.Eq] [b] pos) Γ Φ :=
  xe_cmp op_eq (nomark _) (h.mono fun x Γ1 hb => hb.mono fun y Γ2 ⟨i, j, ex, ey, hq⟩ v w B H σ Q R dv dw k => by
    subst ex ey
    cases dp_str dv
    cases dp_str dw
    exact ⟨rfl, k _ B H Γ2 _ (Same.refl _) R (.bl _) (by simpa using hq)⟩)
def plainD : Nat → PyData → Prop
  | _, .none => True
  | _, .bool _ => True
  | _, .int _ => True
  | _, .str _ => True
  | n + 1, .list ds => ds.length ≤ 1000000 ∧ ∀ d ∈ ds, plainD n d
  | n + 1, .tuple ds => ds.length ≤ 1000000 ∧ ∀ d ∈ ds, plainD n d
  | _, _ => False
theorem plain_nd {n : Nat} {d : PyData} (h : plainD n d) : ∀ kvs, d ≠ .dict kvs := fun kvs e => by
  subst e
  cases n <;> exact h
theorem plain_seq {n : Nat} {d : PyData} (h : plainD n d) (e : (isaD "tuple" d || isaD "list" d) = true) : ∃ m k es, n = m + 1 ∧ seqOf d = some (k, es) ∧ es.length ≤ 1000000 ∧ ∀ x ∈ es, plainD m x := by
  cases d with
  | list ds =>
    cases n with
    | zero => exact h.elim
    | succ m => exact ⟨m, true, ds, rfl, rfl, h.1, h.2⟩
  | tuple ds =>
    cases n with
    | zero => exact h.elim
    | succ m => exact ⟨m, false, ds, rfl, rfl, h.1, h.2⟩
  | _ => simp [isaD, isaT, tyD] at e
def g_law_same (n : Nat) (ds : List PyData) (Φ : PyData → Prop) : Prop := ∃ d : PyData, ds = [d, d] ∧ plainD n d ∧ Φ (.bool true)
theorem eqv_bool (b : Bool) : PyData.eqv (.bool b) (.bool b) = true := by simp [PyData.eqv]
theorem ok_law_same (D : Def K mg "_law_same" s_law_same ["actual", "due"]) (T : Bi mg) (n : Nat) (c_law_same : ∀ m, n = m + 1 → Cal P w K mg base (m + 1) "_law_same" (spP K (g_law_same m))) : Cal P w K mg base (n + 1) "_law_same" (spP K (g_law_same n)) := by
  have S := sc_law_same
  refine def_pure D S (fun ds Φ ⟨_, h, _⟩ => by rw [h]; rfl) fun f cdv A outer s H B E ds Φ hr h => ?_
  obtain ⟨d, rfl, hp, hq⟩ := h
  have hnd := plain_nd hp
  refine xb_cons ?_
  refine xs_if ?_
  refine xt_eq (isaD "tuple" d || isaD "list" d) ?_ ?_
  · refine xt_w ?_
    refine xw_or ?_
    refine xt_val ?_
    refine xe_isa "tuple" T.isinstance T.tuple (by decide +kernel) (by decide) ?_
    refine xe_var 1 rfl ?_
    refine ⟨hnd, _, rfl, fun hk => ⟨rfl, by rw [hk]; rfl⟩, fun hk => ?_⟩
    refine xw_or1 ?_
    refine xt_val ?_
    refine xe_isa "list" T.isinstance T.list (by decide +kernel) (by decide) ?_
    refine xe_var 1 rfl ?_
    exact ⟨hnd, _, rfl, rfl, by rw [hk]; rfl⟩
  refine ⟨fun hc => ?_, fun hc => ?_⟩
  · obtain ⟨m, k, es, rfl, hs, hl, hes⟩ := plain_seq hp hc
    refine xb_cons ?_
    refine xs_if ?_
    refine xt_eq false ?_ ?_
    · refine xt_w ?_
      refine xw_or ?_
      refine xt_neD hr.units ?_
      refine xe_isa "tuple" T.isinstance T.tuple (by decide +kernel) (by decide) ?_
      refine xe_var 1 rfl ?_
      refine ⟨hnd, ?_⟩
      refine xe_isa "tuple" T.isinstance T.tuple (by decide +kernel) (by decide) ?_
      refine xe_var 0 rfl ?_
      refine ⟨hnd, rfl, rfl, ?_⟩
      rw [eqv_bool]
      refine ⟨fun hk => (nomatch hk), fun _ => ?_⟩
      refine xw_or ?_
      refine xt_neD hr.units ?_
      refine xe_isa "list" T.isinstance T.list (by decide +kernel) (by decide) ?_
      refine xe_var 1 rfl ?_
      refine ⟨hnd, ?_⟩
      refine xe_isa "list" T.isinstance T.list (by decide +kernel) (by decide) ?_
      refine xe_var 0 rfl ?_
      refine ⟨hnd, rfl, rfl, ?_⟩
      rw [eqv_bool]
      refine ⟨fun hk => (nomatch hk), fun _ => ?_⟩
      refine xw_or1 ?_
      refine xt_neI ?_
      refine xe_len T.len ?_
      refine xq_e ?_
      refine xe_var 0 rfl ?_
      refine ⟨_, _, hs, ?_⟩
      refine xe_len T.len ?_
      refine xq_e ?_
      refine xe_var 1 rfl ?_
      refine ⟨_, _, hs, ?_⟩
      exact ⟨_, _, rfl, rfl, rfl, by simp⟩
    refine ⟨fun hz => (nomatch hz), fun _ => ?_⟩
    refine xb_nil ?_
    refine xb_one ?_
    refine xs_ret ?_
    refine xe_eqI ?_
    refine xe_len T.len ?_
    refine xq_e ?_
    refine xe_m ?_
    refine xm_lc [("k", 2)] rfl S.nd (blkOk_by rfl) (fun _ h => nomatch h) (lc_pure ?_)
    refine xi_range1 T.range ?_
    refine xe_len T.len ?_
    refine xq_e ?_
    refine xe_var 1 rfl ?_
    refine ⟨_, _, hs, ?_⟩
    refine ⟨_, rfl, by omega, by omega, ?_⟩
    refine ⟨by omega, fun _ => false, fun _ => .none, fun i hi => ?turn, ?_⟩
    case turn =>
      have hi : i < es.length := by omega
      refine ⟨nomu, fun s1 H1 Ca cl fp C' hC => ?_⟩
      refine xg_name 2 (lq rfl) (fr0 hC) ?_ S.nd
      intro s1 H1 Ca cl fp
      refine xts_one ?_
      refine xt_not ?_
      refine xt_val ?_
      refine xe_call (c_law_same m rfl) hr ?_
      refine xa_cons ?_
      refine xe_ix ?_
      refine xe_var 0 rfl ?_
      refine xe_var 2 rfl ?_
      refine ⟨_, _, _, _, hs, rfl, atN (List.getElem?_eq_getElem hi) rfl, ?_⟩
      refine xa_cons ?_
      refine xe_ix ?_
      refine xe_var 1 rfl ?_
      refine xe_var 2 rfl ?_
      refine ⟨_, _, _, _, hs, rfl, atN (List.getElem?_eq_getElem hi) rfl, ?_⟩
      refine xa_nil ?_
      refine ⟨_, rfl, hes _ (List.getElem_mem hi), ?_⟩
      refine ⟨_, rfl, ?_⟩
      exact ⟨fun _ => ⟨rfl, rfl⟩, fun hk => (nomatch hk)⟩
    refine ⟨_, _, rfl, ?_⟩
    refine xe_int ?_
    refine ⟨_, _, rfl, rfl, ?_⟩
    simpa using hq
  refine xb_nil ?_
  refine xb_cons ?_
  refine xs_if ?_
  refine xt_isN ?_
  refine xe_var 1 rfl ?_
  refine ⟨fun hn => ?_, fun hn => ?_⟩
  · refine xb_one ?_
    refine xs_ret ?_
    refine xe_isN ?_
    refine xe_var 0 rfl ?_
    rw [hn]
    exact hq
  refine xb_nil ?_
  refine xb_cons ?_
  refine xs_if ?_
  refine xt_eq (isaD "bool" d) ?_ ?_
  · refine xt_w ?_
    refine xw_or ?_
    refine xt_val ?_
    refine xe_isa "bool" T.isinstance T.bool (by decide +kernel) (by decide) ?_
    refine xe_var 1 rfl ?_
    refine ⟨hnd, _, rfl, fun hk => ⟨rfl, hk.symm⟩, fun hk => ?_⟩
    refine xw_or1 ?_
    refine xt_val ?_
    refine xe_isa "bool" T.isinstance T.bool (by decide +kernel) (by decide) ?_
    refine xe_var 0 rfl ?_
    exact ⟨hnd, _, rfl, rfl, rfl⟩
  refine ⟨fun hb => ?_, fun hb => ?_⟩
  · obtain ⟨v, rfl⟩ : ∃ v, d = .bool v := by
      cases d with
      | bool v => exact ⟨v, rfl⟩
      | _ => simp [isaD, isaT, tyD] at hb
    refine xb_one ?_
    refine xs_ret ?_
    refine xe_and ?_
    refine xe_isa "bool" T.isinstance T.bool (by decide +kernel) (by decide) ?_
    refine xe_var 1 rfl ?_
    refine ⟨hnd, _, rfl, fun hk => (nomatch hk), fun _ => ?_⟩
    refine xe_and ?_
    refine xe_isa "bool" T.isinstance T.bool (by decide +kernel) (by decide) ?_
    refine xe_var 0 rfl ?_
    refine ⟨hnd, _, rfl, fun hk => (nomatch hk), fun _ => ?_⟩
    refine xe_one ?_
    refine xe_eqD hr.units ?_
    refine xe_var 0 rfl ?_
    refine xe_var 1 rfl ?_
    refine ⟨rfl, rfl, ?_⟩
    rw [eqv_bool]
    exact hq
  refine xb_nil ?_
  refine xb_cons ?_
  refine xs_if ?_
  refine xt_val ?_
  refine xe_isa "int" T.isinstance T.int (by decide +kernel) (by decide) ?_
  refine xe_var 1 rfl ?_
  refine ⟨hnd, _, rfl, fun hi => ?_, fun hi => ?_⟩
  · obtain ⟨v, rfl⟩ : ∃ v, d = .int v := by
      cases d with
      | int v => exact ⟨v, rfl⟩
      | bool v => simp [isaD, isaT, tyD] at hb
      | _ => simp [isaD, isaT, tyD] at hi
    refine xb_one ?_
    refine xs_ret ?_
    refine xe_and ?_
    refine xe_isa "int" T.isinstance T.int (by decide +kernel) (by decide) ?_
    refine xe_var 0 rfl ?_
    refine ⟨hnd, _, rfl, fun hk => (nomatch hk), fun _ => ?_⟩
    refine xe_one ?_
    refine xe_eqI ?_
    refine xe_var 0 rfl ?_
    refine xe_var 1 rfl ?_
    refine ⟨_, _, rfl, rfl, ?_⟩
    rw [decide_eq_true rfl]
    exact hq
  refine xb_nil ?_
  obtain ⟨v, rfl⟩ : ∃ v, d = .str v := by
    cases d with
    | str v => exact ⟨v, rfl⟩
    | none => simp [isNo] at hn
    | bool v => simp [isaD, isaT, tyD] at hb
    | int v => simp [isaD, isaT, tyD] at hi
    | list v => simp [isaD, isaT, tyD] at hc
    | tuple v => simp [isaD, isaT, tyD] at hc
    | dict v => exact absurd rfl (hnd v)
  refine xb_one ?_
  refine xs_ret ?_
  refine xe_and ?_
  refine xe_isa "str" T.isinstance T.str (by decide +kernel) (by decide) ?_
  refine xe_var 0 rfl ?_
  refine ⟨hnd, _, rfl, fun hk => (nomatch hk), fun _ => ?_⟩
  refine xe_and ?_
  refine xe_isa "str" T.isinstance T.str (by decide +kernel) (by decide) ?_
  refine xe_var 1 rfl ?_
  refine ⟨hnd, _, rfl, fun hk => (nomatch hk), fun _ => ?_⟩
  refine xe_one ?_
  refine xe_eqS ?_
  refine xe_var 0 rfl ?_
  refine xe_var 1 rfl ?_
  refine ⟨_, _, rfl, rfl, ?_⟩
  rw [decide_eq_true rfl]
  exact hq
theorem ok_law_same_all (D : Def K mg "_law_same" s_law_same ["actual", "due"]) (T : Bi mg) : ∀ n, Cal P w K mg base (n + 1) "_law_same" (spP K (g_law_same n))
  | 0 => ok_law_same D T 0 fun m h => by omega
  | n + 1 => ok_law_same D T (n + 1) fun m h => by
    have e : m = n := by omega
    subst e
    exact ok_law_same_all D T m
end W99
end

section
namespace W99
open PySem L2 Gh
variable {P : Program} {w : World} {K : PySem.W.Frag} {mg : Str → Option Value} {base : Heap}

/-! ### draws -/
def poolD (cells : List Int) (a : Nat) (b c e : Int) : List PyData := [.list (dI cells), .int a, .int b, .int c, .int e]
def PoolOk (pl : List PyData) : Prop := ∃ cells a b c e, pl = poolD cells a b c e
def g_law_pool (ds : List PyData) (Φ : List PyData → Prop) : Prop := ∃ cells : List Int, ds = [.list (dI cells)] ∧ ∀ pl, PoolOk pl → Φ pl
theorem ok_law_pool (D : Def K mg "_law_pool" s_law_pool ["script"]) (T : Bi mg) : Cal P w K mg base 1 "_law_pool" (spN K g_law_pool) := by
  have S := sc_law_pool
  refine def_new D S (fun ds Φ ⟨_, h, _⟩ => by rw [h]; rfl) fun f cdv A outer s H B E ds Φ hr h => ?_
  obtain ⟨cells, rfl, hq⟩ := h
  refine xn_cons ?_
  refine xs_asg 1 ?_ S.nd
  refine xe_int ?_
  refine ⟨lq rfl, fr0 rfl, ?_⟩
  refine xn_cons ?_
  refine xs_for [2] PassesOwn.never rfl ?_
  refine xi_seq ?_
  refine xe_m (xm_slL ?_)
  refine xe_var 0 rfl ?_
  refine xo_none ?_
  refine xo_some ?_
  refine xe_int ?_
  refine ⟨_, rfl, ?_⟩
  refine ⟨_, rfl, ?_⟩
  refine ⟨_, _, rfl, ?_⟩
  have hcut : cutD (dI cells) none (some 63) = dI (cells.take 63) := by
    rw [dI, dI, List.map_take]
    unfold cutD
    rw [HT.sIx_none, List.drop_zero, show HT.sIx (List.map PyData.int cells).length (List.map PyData.int cells).length (some 63) = min 63 (List.map PyData.int cells).length from HT.sIx_nat _ _ 63]
    rw [Nat.sub_zero, List.take_eq_take_iff]
    omega
  refine ⟨fun i Γ => ∃ (n : Int) (a : GE), Γ = [.val (.list (dI cells)), .val (.int n), a], ⟨_, _, rfl⟩, fun i Γ2 hi hP => ?_, fun Γ2 hP => ?_⟩
  · obtain ⟨n, _, rfl⟩ := hP
    rw [hcut] at hi ⊢
    rw [List.length_map] at hi
    refine xg_eq (getD_map hi) ?_
    refine xg_name 2 (lq rfl) (fr0 rfl) ?_ S.nd
    refine xb_one ?_
    refine xs_asg 1 ?_ S.nd
    refine xe_mod ?_
    refine xe_intOf T.int ?_
    refine xe_add ?_
    refine xe_mul ?_
    refine xe_var 1 rfl ?_
    refine xe_int ?_
    refine ⟨_, _, rfl, rfl, .inr (by decide), ?_⟩
    refine xe_var 2 rfl ?_
    refine ⟨_, _, rfl, rfl, ?_⟩
    refine ⟨_, rfl, ?_⟩
    refine xe_int ?_
    refine ⟨_, _, rfl, rfl, by decide, ?_⟩
    refine ⟨lq rfl, fr0 rfl, ?_⟩
    exact ⟨_, _, rfl⟩
  obtain ⟨n, _, rfl⟩ := hP
  refine xn_ret ?_
  refine (xm_lst ?_)
  refine xa_cons ?_
  refine xe_m (xm_listOf T.list ?_)
  refine xq_e ?_
  refine xe_var 0 rfl ?_
  refine ⟨_, _, rfl, ?_⟩
  refine xa_cons ?_
  refine xe_int ?_
  refine xa_cons ?_
  refine xe_int ?_
  refine xa_cons ?_
  refine xe_int ?_
  refine xa_cons ?_
  refine xe_var 1 rfl ?_
  refine xa_nil ?_
  refine ⟨by simp, ?_⟩
  exact hq _ ⟨cells, 0, 0, 0, n, rfl⟩

def g_law_spread (ds : List PyData) (Φ : PyData → Prop) : Prop := ∃ n : Int, ds = [.int n] ∧ ∀ m : Int, Φ (.int m)
theorem ok_law_spread (D : Def K mg "_law_spread" s_law_spread ["cell"]) (T : Bi mg) : Cal P w K mg base 1 "_law_spread" (spP K g_law_spread) := by
  have S := sc_law_spread
  refine def_pure D S (fun ds Φ ⟨_, h, _⟩ => by rw [h]; rfl) fun f cdv A outer s H B E ds Φ hr h => ?_
  obtain ⟨n, rfl, hq⟩ := h
  refine xb_cons ?_
  refine xs_asg 1 ?_ S.nd
  refine xe_mod ?_
  refine xe_intOf T.int ?_
  refine xe_var 0 rfl ?_
  refine ⟨_, rfl, ?_⟩
  refine xe_int ?_
  refine ⟨_, _, rfl, rfl, by decide, ?_⟩
  refine ⟨lq rfl, fr0 rfl, ?_⟩
  refine xb_cons ?_
  refine xs_asg 2 ?_ S.nd
  refine xe_int ?_
  refine ⟨lq rfl, fr0 rfl, ?_⟩
  refine xb_cons ?_
  refine xs_for [3] PassesOwn.never rfl ?_
  refine xi_range1 T.range ?_
  refine xe_int ?_
  refine ⟨_, rfl, by decide, by decide, ?_⟩
  refine ⟨fun i Γ => ∃ (m t : Int) (a : GE), Γ = [.val (.int n), .val (.int m), .val (.int t), a], ⟨_, _, _, rfl⟩, fun i Γ2 hi hP => ?_, fun Γ2 hP => ?_⟩
  · obtain ⟨m, t, _, rfl⟩ := hP
    refine xg_name 3 (lq rfl) (fr0 rfl) ?_ S.nd
    refine xb_cons ?_
    refine xs_asg 1 ?_ S.nd
    refine xe_mod ?_
    refine xe_intOf T.int ?_
    refine xe_add ?_
    refine xe_add ?_
    refine xe_mul ?_
    refine xe_var 1 rfl ?_
    refine xe_int ?_
    refine ⟨_, _, rfl, rfl, .inr (by decide), ?_⟩
    refine xe_int ?_
    refine ⟨_, _, rfl, rfl, ?_⟩
    refine xe_var 3 rfl ?_
    refine ⟨_, _, rfl, rfl, ?_⟩
    refine ⟨_, rfl, ?_⟩
    refine xe_int ?_
    refine ⟨_, _, rfl, rfl, by decide, ?_⟩
    refine ⟨lq rfl, fr0 rfl, ?_⟩
    refine xb_one ?_
    refine xs_asg 2 ?_ S.nd
    refine xe_add ?_
    refine xe_mul ?_
    refine xe_var 2 rfl ?_
    refine xe_int ?_
    refine ⟨_, _, rfl, rfl, .inr (by decide), ?_⟩
    refine xe_var 1 rfl ?_
    refine ⟨_, _, rfl, rfl, ?_⟩
    refine ⟨lq rfl, fr0 rfl, ?_⟩
    exact ⟨_, _, _, rfl⟩
  obtain ⟨m, t, _, rfl⟩ := hP
  refine xb_one ?_
  refine xs_ret ?_
  refine xe_var 2 rfl ?_
  exact hq _

def g_law_draw (pl ds : List PyData) (Φ : PyData → List PyData → Prop) : Prop := PoolOk pl ∧ ∃ many : Int, ds = [.int many] ∧ 0 < many ∧ many < 1000000 ∧ ∀ (v : Int) pl', 0 ≤ v → v < many → PoolOk pl' → Φ (.int v) pl'
theorem ok_law_draw (D : Def K mg "_law_draw" s_law_draw ["pool", "many"]) (T : Bi mg) (c_law_spread : Cal P w K mg base 1 "_law_spread" (spP K g_law_spread)) : Cal P w K mg base 2 "_law_draw" (spM K g_law_draw) := by
  have S := sc_law_draw
  refine def_mut D S (fun pl ds Φ ⟨_, _, h, _⟩ => by rw [h]; rfl) fun f cdv A outer s H B E p pl ds Φ hr h => ?_
  obtain ⟨⟨cells, a, b, c, e, rfl⟩, many, rfl, h0, h1, hq⟩ := h
  refine xb_cut (fun Γ => ∃ cells a b c e x, Γ = [.lst (poolD cells a b c e), .val (.int many), x, .no, .no] ∧ GE.mu x = false) ?_ ?_
  rotate_left
  · rintro Γ1 ⟨cells, a, b, c, e, x, rfl, mx⟩
    refine xb_cons ?_
    refine xs_setIx 0 ?_
    refine xe_add ?_
    refine xe_ixM 0 ?_
    refine xe_int ?_
    refine ⟨_, _, _, rfl, rfl, rfl, ?_⟩
    refine xe_int ?_
    refine ⟨_, _, rfl, rfl, ?_⟩
    refine xe_int ?_
    refine ⟨_, _, _, rfl, rfl, rfl, ?_⟩
    refine xb_cons ?_
    refine xs_if ?_
    refine xt_le ?_
    refine xe_ixM 0 ?_
    refine xe_int ?_
    refine ⟨_, _, _, rfl, rfl, rfl, ?_⟩
    refine xe_int ?_
    refine ⟨_, _, rfl, rfl, ?_⟩
    refine ⟨fun hc => ?_, fun hc => ?_⟩
    ·
      refine xb_cons ?_
      refine xs_asg 3 ?_ S.nd
      refine xe_mod ?_
      refine xe_intOf T.int ?_
      refine xe_add ?_
      refine xe_add ?_
      refine xe_mul ?_
      refine xe_ixM 0 ?_
      refine xe_int ?_
      refine ⟨_, _, _, rfl, rfl, rfl, ?_⟩
      refine xe_int ?_
      refine ⟨_, _, rfl, rfl, .inr (by decide), ?_⟩
      refine xe_mul ?_
      refine xe_ixM 0 ?_
      refine xe_int ?_
      refine ⟨_, _, _, rfl, rfl, rfl, ?_⟩
      refine xe_int ?_
      refine ⟨_, _, rfl, rfl, .inr (by decide), ?_⟩
      refine ⟨_, _, rfl, rfl, ?_⟩
      refine xe_int ?_
      refine ⟨_, _, rfl, rfl, ?_⟩
      refine ⟨_, rfl, ?_⟩
      refine xe_int ?_
      refine ⟨_, _, rfl, rfl, by decide, ?_⟩
      refine ⟨lq rfl, fr1 rfl rfl, ?_⟩
      refine xb_cons ?_
      refine xs_asg 3 ?_ S.nd
      refine xe_mod ?_
      refine xe_intOf T.int ?_
      refine xe_add ?_
      refine xe_mul ?_
      refine xe_var 3 rfl ?_
      refine xe_int ?_
      refine ⟨_, _, rfl, rfl, .inr (by decide), ?_⟩
      refine xe_ixM 0 ?_
      refine xe_int ?_
      refine ⟨_, _, _, rfl, rfl, rfl, ?_⟩
      refine ⟨_, _, rfl, rfl, ?_⟩
      refine ⟨_, rfl, ?_⟩
      refine xe_int ?_
      refine ⟨_, _, rfl, rfl, by decide, ?_⟩
      refine ⟨lq rfl, fr1 rfl rfl, ?_⟩
      refine xb_one ?_
      refine xs_ret ?_
      refine xe_mod ?_
      refine xe_fdiv ?_
      refine xe_var 3 rfl ?_
      refine xe_int ?_
      refine ⟨_, _, rfl, rfl, ⟨by decide, by decide⟩, ?_⟩
      refine xe_var 1 rfl ?_
      refine ⟨_, _, rfl, rfl, h0, ?_⟩
      exact ⟨_, rfl, hq _ _ (Int.emod_nonneg _ (by omega)) (Int.emod_lt_of_pos _ h0) ⟨cells, a, b, c + 1, e, rfl⟩⟩
    refine xb_nil ?_
    refine xb_cons ?_
    refine xs_asg 4 ?_ S.nd
    refine xe_mod ?_
    refine xe_intOf T.int ?_
    refine xe_ixM 0 ?_
    refine xe_int ?_
    refine ⟨_, _, _, rfl, rfl, rfl, ?_⟩
    refine ⟨_, rfl, ?_⟩
    refine xe_var 1 rfl ?_
    refine ⟨_, _, rfl, rfl, h0, ?_⟩
    refine ⟨lq rfl, fr1 rfl rfl, ?_⟩
    refine xb_cons ?_
    refine xs_setIx 0 ?_
    refine xe_fdiv ?_
    refine xe_ixM 0 ?_
    refine xe_int ?_
    refine ⟨_, _, _, rfl, rfl, rfl, ?_⟩
    refine xe_var 1 rfl ?_
    refine ⟨_, _, rfl, rfl, ⟨h0, by omega⟩, ?_⟩
    refine xe_int ?_
    refine ⟨_, _, _, rfl, rfl, rfl, ?_⟩
    refine xb_one ?_
    refine xs_ret ?_
    refine xe_var 4 rfl ?_
    exact ⟨_, rfl, hq _ _ (Int.emod_nonneg _ (by omega)) (Int.emod_lt_of_pos _ h0) ⟨cells, a, b / many, c + 1, e, rfl⟩⟩
  refine xs_if ?_
  refine xt_eq (decide (b ≤ 0) && decide ((a : Int) < (cells.length : Nat))) ?_ ?_
  refine xt_w ?_
  refine xw_and ?_
  refine xt_le ?_
  refine xe_ixM 0 ?_
  refine xe_int ?_
  refine ⟨_, _, _, rfl, rfl, rfl, ?_⟩
  refine xe_int ?_
  refine ⟨_, _, rfl, rfl, ?_⟩
  refine ⟨fun hk => ⟨rfl, by rw [hk]; rfl⟩, fun hk => ?_⟩
  refine xw_and1 ?_
  refine xt_lt ?_
  refine xe_ixM 0 ?_
  refine xe_int ?_
  refine ⟨_, _, _, rfl, rfl, rfl, ?_⟩
  refine xe_len T.len ?_
  refine xq_e ?_
  refine xe_ixM 0 ?_
  refine xe_int ?_
  refine ⟨_, _, _, rfl, rfl, rfl, ?_⟩
  refine ⟨_, _, rfl, ?_⟩
  refine ⟨_, _, rfl, rfl, rfl, by rw [hk, List.length_map]; rfl⟩
  refine ⟨fun hc => ?_, fun hc => ?_⟩
  · refine xb_cons ?_
    refine xs_asg 2 ?_ S.nd
    refine xe_ix ?_
    refine xe_ixM 0 ?_
    refine xe_int ?_
    refine ⟨_, _, _, rfl, rfl, rfl, ?_⟩
    refine xe_ixM 0 ?_
    refine xe_int ?_
    refine ⟨_, _, _, rfl, rfl, rfl, ?_⟩
    refine ⟨_, _, _, _, rfl, rfl, atN (a := .int (cells.getD a 0)) ?_ rfl, ?_⟩
    · rw [dI, List.getElem?_map, getElem?_getD 0 (by simp at hc; exact hc.2)]
      rfl
    refine ⟨lq rfl, fr1 rfl rfl, ?_⟩
    refine xb_cons ?_
    refine xs_setIx 0 ?_
    refine xe_add ?_
    refine xe_ixM 0 ?_
    refine xe_int ?_
    refine ⟨_, _, _, rfl, rfl, rfl, ?_⟩
    refine xe_int ?_
    refine ⟨_, _, rfl, rfl, ?_⟩
    refine xe_int ?_
    refine ⟨_, _, _, rfl, rfl, rfl, ?_⟩
    refine xb_cons ?_
    refine xs_setIx 0 ?_
    refine xe_var 2 rfl ?_
    refine xe_int ?_
    refine ⟨_, _, _, rfl, rfl, rfl, ?_⟩
    refine xb_one ?_
    refine xs_if ?_
    refine xt_lt ?_
    refine xe_var 2 rfl ?_
    refine xe_int ?_
    refine ⟨_, _, rfl, rfl, ?_⟩
    refine ⟨fun hc => ?_, fun hc => ?_⟩
    ·
      refine xb_one ?_
      refine xs_setIx 0 ?_
      refine xe_call c_law_spread (hr.mono (by decide)) ?_
      refine xa_cons ?_
      refine xe_var 2 rfl ?_
      refine xa_nil ?_
      refine ⟨_, rfl, fun m => ?_⟩
      refine xe_int ?_
      refine ⟨_, _, _, rfl, rfl, rfl, ?_⟩
      exact ⟨cells, a + 1, m, c, e, _, rfl, rfl⟩
    · refine xb_nil ?_
      exact ⟨cells, a + 1, _, c, e, _, rfl, rfl⟩
  · refine xb_nil ?_
    exact ⟨cells, a, b, c, e, _, rfl, rfl⟩
end W99
end

section
namespace W99
open PySem L2 Gh
variable {P : Program} {w : World} {K : PySem.W.Frag} {mg : Str → Option Value} {base : Heap}

theorem pf1 {C : GC} {i j : Nat} {p : Addr} (h : C.ps = [(j, p)]) (hi : Nat.beq j i = false) : ∀ q ∈ C.ps, q.1 ≠ i := by
  rw [h]
  intro q hq e
  rcases List.mem_singleton.mp hq with rfl
  have e : j = i := e
  subst e
  rw [show Nat.beq j j = true from Nat.beq_refl j] at hi
  cases hi
theorem pn1 {C : GC} {j : Nat} {own : List Nat} {p : Addr} (h : C.ps = [(j, p)]) (hi : j ∉ own := by decide) : ∀ q ∈ C.ps, q.1 ∉ own := by
  rw [h]
  intro q hq
  rcases List.mem_singleton.mp hq with rfl
  exact hi
theorem shaped_of {ds : List PyData} {n : Nat} (h : ∀ d ∈ ds, d.canLay0 = true ∧ d.depth ≤ 60) : SeqAt.shaped (.list ds) = true := by
  have h1 : PyData.canLayAll0 ds = true ∧ PyData.depthAll ds ≤ 60 := by
    induction ds with
    | nil => exact ⟨rfl, by simp [PyData.depthAll]⟩
    | cons d ds ih =>
      obtain ⟨a, b⟩ := h d List.mem_cons_self
      obtain ⟨c, e⟩ := ih fun x hx => h x (List.mem_cons_of_mem _ hx)
      refine ⟨by simp [PyData.canLayAll0, a, c], ?_⟩
      simp only [PyData.depthAll]
      omega
  unfold SeqAt.shaped
  have h2 : (PyData.list ds).canLay0 = true := by simpa [PyData.canLay0] using h1.1
  have h3 : (PyData.list ds).depth ≤ 64 := by
    have := h1.2
    simp only [PyData.depth]
    omega
  rw [h2, decide_eq_true h3]
  rfl
theorem shaped_ints (ns : List Int) : SeqAt.shaped (.list (dI ns)) = true := shaped_of (n := 0) fun d hd => by
  obtain ⟨n, _, rfl⟩ := List.mem_map.mp hd
  exact ⟨rfl, by simp [PyData.depth]⟩
theorem shaped_pairs (ns : List Pr) : SeqAt.shaped (.list (ns.map dP)) = true := shaped_of (n := 0) fun d hd => by
  obtain ⟨n, _, rfl⟩ := List.mem_map.mp hd
  exact ⟨rfl, by simp [PyData.depth, PyData.depthAll]⟩
theorem eqv_nil (ds : List PyData) : PyData.eqv (.list ds) (.list []) = decide (ds.length = 0) := by
  cases ds with
  | nil => simp [PyData.eqv, PyData.eqvAll]
  | cons a l => simp [PyData.eqv, PyData.eqvAll]
def g_law_shuffled (pl ds : List PyData) (Φ : PyData → List PyData → Prop) : Prop := PoolOk pl ∧ ∃ ns : List Int, ds = [.list (dI ns)] ∧ ns.length ≤ 1000 ∧ ∀ (ms : List Int) pl', ms.Perm ns → PoolOk pl' → Φ (.list (dI ms)) pl'
theorem map_erase {α β : Type} (f : α → β) : ∀ (l : List α) (j : Nat), (l.map f).eraseIdx j = (l.eraseIdx j).map f
  | [], _ => rfl
  | a :: l, 0 => rfl
  | a :: l, j + 1 => by
    rw [List.map_cons, List.eraseIdx_cons_succ, List.eraseIdx_cons_succ, List.map_cons, map_erase f l j]
theorem perm_erase {α : Type} {l : List α} {j : Nat} (h : j < l.length) : ([l[j]] ++ l.eraseIdx j).Perm l := by
  induction l generalizing j with
  | nil => exact absurd h (Nat.not_lt_zero _)
  | cons a l ih =>
    cases j with
    | zero => exact List.Perm.refl _
    | succ j =>
      have hj : j < l.length := by simpa using h
      have := ih hj
      rw [List.getElem_cons_succ, List.eraseIdx_cons_succ]
      exact (List.Perm.swap a l[j] _).trans (List.Perm.cons a this)
theorem ok_law_shuffled (D : Def K mg "_law_shuffled" s_law_shuffled ["pool", "rows"]) (T : Bi mg) (c_law_draw : Cal P w K mg base 2 "_law_draw" (spM K g_law_draw)) : Cal P w K mg base 3 "_law_shuffled" (spM K g_law_shuffled) := by
  have S := sc_law_shuffled
  refine def_mut D S (fun pl ds Φ ⟨_, _, h, _⟩ => by rw [h]; rfl) fun f cdv A outer s H B E p pl ds Φ hr h => ?_
  obtain ⟨hp0, ns, rfl, hl, hq⟩ := h
  refine xb_cons ?_
  refine xs_asgM 2 ?_ S.nd
  refine (xm_listOf T.list ?_)
  refine xq_e ?_
  refine xe_var 1 rfl ?_
  refine ⟨_, _, rfl, ?_⟩
  refine ⟨lq rfl, fr1 rfl rfl, ?_⟩
  refine xb_cons ?_
  refine xs_asgM 3 ?_ S.nd
  refine (xm_lst ?_)
  refine xa_nil ?_
  refine ⟨by simp, ?_⟩
  refine ⟨lq rfl, fr1 rfl rfl, ?_⟩
  refine xb_cons ?_
  refine xs_while PassesOwn.never (fun m Γ => ∃ (pl : List PyData) (lf fd : List Int) (la fa : List PyData), Γ = [.lst pl, .val (.list (dI ns)), .lst la, .lst fa] ∧ PoolOk pl ∧ la = dI lf ∧ fa = dI fd ∧ (fd ++ lf).Perm ns ∧ m = lf.length) _ ⟨pl, ns, [], _, _, rfl, hp0, rfl, rfl, by simp, rfl⟩ fun m Γ1 hW => ?_
  obtain ⟨pl1, lf, fd, la, fa, rfl, hp1, el, ef, hpm, rfl⟩ := hW
  refine xt_neM 2 hr.units rfl ?_
  refine xe_m (xm_lst ?_)
  refine xa_nil ?_
  refine ⟨by simp, ?_⟩
  refine ⟨rfl, by rw [el]; exact shaped_ints lf, rfl, ?_⟩
  rw [eqv_nil, el, List.length_map]
  refine ⟨fun hc => ?_, fun hc => ?_⟩
  ·
    refine xb_one ?_
    refine xs_append 3 ?_
    refine xe_popAt 2 ?_
    refine xe_callM 0 c_law_draw (hr.mono (by decide)) ?_
    refine xa_cons ?_
    refine xe_len T.len ?_
    refine xq_m 2 rfl ?_
    refine xa_nil ?_
    have hc : 0 < lf.length := by simp at hc; exact Nat.pos_of_ne_zero fun z => hc (List.eq_nil_of_length_eq_zero z)
    have hlen : fd.length + lf.length = ns.length := by rw [← List.length_append]; exact hpm.length_eq
    refine ⟨_, rfl, hp1, _, rfl, by rw [List.length_map]; omega, by rw [List.length_map]; omega, fun v pl2 hv hw hp2 => ?_⟩
    rw [List.length_map] at hw
    obtain ⟨j, rfl⟩ : ∃ j : Nat, v = (j : Int) := ⟨v.toNat, by omega⟩
    have hj : j < lf.length := by omega
    refine ⟨_, _, j, .int lf[j], rfl, rfl, by omega, by omega, by rw [List.length_map]; unfold seqIndex?; simp; omega, by simp [hj], ?_⟩
    refine ⟨_, rfl, by rw [ef, List.length_map]; omega, ?_⟩
    refine ⟨lf.length - 1, by omega, pl2, lf.eraseIdx j, fd ++ [lf[j]], _, _, rfl, hp2, ?_, ?_, ?_, ?_⟩
    · rw [dI, dI, map_erase]
    · rw [ef, dI, dI, List.map_append]
      rfl
    · refine List.Perm.trans ?_ hpm
      rw [List.append_assoc]
      exact List.Perm.append_left fd (perm_erase hj)
    · rw [List.length_eraseIdx_of_lt hj]
  have hc : lf.length = 0 := by simp at hc; simp [hc]
  have e0 : lf = [] := List.eq_nil_of_length_eq_zero hc
  subst e0
  refine xb_one ?_
  refine xs_ret ?_
  refine xe_frz 3 rfl (pf1 rfl rfl) ?_
  rw [List.append_nil] at hpm
  rw [ef]
  exact ⟨_, rfl, hq _ _ hpm hp1⟩

def g_law_some_case (pl ds : List PyData) (Φ : PyData → List PyData → Prop) : Prop := PoolOk pl ∧ ∃ many : Nat, ds = [.int many] ∧ many ≤ 1000 ∧ ∀ (ca : Case) pl', 0 ≤ ca.wind ∧ ca.wind < 41 → 0 ≤ ca.dir ∧ ca.dir < 4 → (∀ k ∈ ca.off, 0 ≤ k ∧ k < many) → ca.off.length ≤ many → PoolOk pl' → Φ (dK ca) pl'
theorem ok_law_some_case (D : Def K mg "_law_some_case" s_law_some_case ["pool", "many"]) (T : Bi mg) (c_law_draw : Cal P w K mg base 2 "_law_draw" (spM K g_law_draw)) : Cal P w K mg base 3 "_law_some_case" (spM K g_law_some_case) := by
  have S := sc_law_some_case
  refine def_mut D S (fun pl ds Φ ⟨_, _, h, _⟩ => by rw [h]; rfl) fun f cdv A outer s H B E p pl ds Φ hr h => ?_
  obtain ⟨hp0, many, rfl, hm, hq⟩ := h
  refine xb_one ?_
  refine xs_ret ?_
  refine xe_tup ?_
  refine xa_cons ?_
  refine xe_callM 0 c_law_draw (hr.mono (by decide)) ?_
  refine xa_cons ?_
  refine xe_int ?_
  refine xa_nil ?_
  refine ⟨_, rfl, hp0, _, rfl, by decide, by decide, fun v1 pl1 hv1 hw1 hp1 => ?_⟩
  refine xa_cons ?_
  refine xe_callM 0 c_law_draw (hr.mono (by decide)) ?_
  refine xa_cons ?_
  refine xe_int ?_
  refine xa_nil ?_
  refine ⟨_, rfl, hp1, _, rfl, by decide, by decide, fun v2 pl2 hv2 hw2 hp2 => ?_⟩
  refine xa_cons ?_
  refine xe_tupleOf T.tuple ?_
  refine xq_e ?_
  refine xe_m ?_
  refine xm_lc [("k", 2)] rfl S.nd (blkOk_by rfl) (pn1 rfl) ?_
  refine xi_range1 T.range ?_
  refine xe_var 1 rfl ?_
  refine ⟨_, rfl, by omega, by omega, ?_⟩
  refine ⟨fun i acc Γ => ∃ (pl : List PyData) (of : List Int), Γ = [.lst pl, .val (.int many), .no] ∧ PoolOk pl ∧ acc = dI of ∧ (∀ k ∈ of, 0 ≤ k ∧ k < many) ∧ of.length ≤ i, ⟨pl2, [], rfl, hp2, rfl, (fun _ h => nomatch h), Nat.le_refl _⟩, fun i acc Γ2 hi hP => ?_, fun acc Γ2 hP => ?_⟩
  · obtain ⟨pl3, of, rfl, hp3, ea, hof, hln⟩ := hP
    have hi : i < many := by omega
    refine ⟨nomu, fun s1 H1 Ca cl fp C' hC => ?_⟩
    refine xg_name 2 (lq rfl) (fr1 hC rfl) ?_ S.nd
    intro s1 H1 Ca cl fp
    refine xts_one ?_
    refine xt_eqI ?_
    refine xe_callM 0 c_law_draw (hr.mono (by decide)) ?_
    refine xa_cons ?_
    refine xe_int ?_
    refine xa_nil ?_
    refine ⟨_, rfl, hp3, _, rfl, by decide, by decide, fun v4 pl4 hv4 hw4 hp4 => ?_⟩
    refine xe_int ?_
    refine ⟨_, _, rfl, rfl, ?_⟩
    refine ⟨fun hk => ⟨pl4, of, rfl, hp4, ea, hof, by omega⟩, fun hk s1 H1 Ca cl fp => ?_⟩
    refine xe_var 2 rfl ?_
    refine ⟨by rw [ea, List.length_map]; omega, pl4, of ++ [(i : Int)], rfl, hp4, by rw [ea, dI, dI, List.map_append]; rfl, fun k hk => ?_, by rw [List.length_append, List.length_singleton]; omega⟩
    rcases List.mem_append.mp hk with h | h
    · exact hof k h
    · rcases List.mem_singleton.mp h with rfl
      omega
  obtain ⟨pl5, of, rfl, hp5, ea, hof, hln⟩ := hP
  refine ⟨_, _, rfl, ?_⟩
  refine ⟨rfl, ?_⟩
  refine xa_nil ?_
  refine ⟨by simp, ?_⟩
  rw [ea]
  exact ⟨_, rfl, hq ⟨v1, v2, of⟩ _ ⟨hv1, hw1⟩ ⟨hv2, hw2⟩ hof (show of.length ≤ many by omega) hp5⟩
end W99
end

section
namespace W99
open PySem L2 Gh
variable {P : Program} {w : World} {K : PySem.W.Frag} {mg : Str → Option Value} {base : Heap}

def g_law_curve (pl ds : List PyData) (Φ : PyData → List PyData → Prop) : Prop := PoolOk pl ∧ ∃ top : Int, ds = [.int top] ∧ 0 ≤ top ∧ top ≤ 1000 ∧ ∀ (c : List Pr) pl', CurveOk c → PoolOk pl' → Φ (dC c) pl'
theorem asc_len {ms : List Int} (h : ms.Pairwise (· < ·)) (hm : ∀ n ∈ ms, 1 ≤ n ∧ n ≤ 40) : ms.length ≤ 1000 - 1 := by
  have key : ∀ (l : List Int) (lo : Int), l.Pairwise (· < ·) → (∀ n ∈ l, lo ≤ n ∧ n ≤ 40) → (l.length : Int) ≤ (41 - lo) ∨ l = [] := by
    intro l
    induction l with
    | nil => intro _ _ _; exact .inr rfl
    | cons a l ih =>
      intro lo hp hb
      have h1 := hb a List.mem_cons_self
      obtain ⟨h2, h3⟩ := List.pairwise_cons.mp hp
      left
      rcases ih (a + 1) h3 fun n hn => ⟨by have := h2 n hn; omega, (hb n (List.mem_cons_of_mem _ hn)).2⟩ with h | h
      · rw [List.length_cons]; omega
      · subst h; simp; omega
  rcases key ms 1 h hm with h | h
  · omega
  · subst h; simp
theorem ok_law_curve (D : Def K mg "_law_curve" s_law_curve ["pool", "top"]) (T : Bi mg) (c_law_draw : Cal P w K mg base 2 "_law_draw" (spM K g_law_draw)) : Cal P w K mg base 3 "_law_curve" (spM K g_law_curve) := by
  have S := sc_law_curve
  refine def_mut D S (fun pl ds Φ ⟨_, _, h, _⟩ => by rw [h]; rfl) fun f cdv A outer s H B E p pl ds Φ hr h => ?_
  obtain ⟨hp0, top, rfl, ht0, ht1, hq⟩ := h
  refine xb_cons ?_
  refine xs_asg 2 ?_ S.nd
  refine xe_m (xm_sortedSet rfl T.sorted T.set ?_)
  refine xq_e ?_
  refine xe_m ?_
  refine xm_lc [("k", 3)] rfl S.nd (blkOk_by rfl) (pn1 rfl) ?_
  refine xi_range1 T.range ?_
  refine xe_add ?_
  refine xe_int ?_
  refine xe_callM 0 c_law_draw (hr.mono (by decide)) ?_
  refine xa_cons ?_
  refine xe_int ?_
  refine xa_nil ?_
  refine ⟨_, rfl, hp0, _, rfl, by decide, by decide, fun v1 pl1 hv1 hw1 hp1 => ?_⟩
  refine ⟨_, _, rfl, rfl, ?_⟩
  refine ⟨_, rfl, by omega, by omega, ?_⟩
  refine ⟨fun i acc Γ => ∃ (pl : List PyData) (ns : List Int), Γ = [.lst pl, .val (.int top), .no, .no, .no] ∧ PoolOk pl ∧ acc = dI ns ∧ ns.length ≤ i ∧ ∀ n ∈ ns, 1 ≤ n ∧ n ≤ 40, ⟨pl1, [], rfl, hp1, rfl, Nat.le_refl _, (fun _ h => nomatch h)⟩, fun i acc Γ2 hi hP => ?_, fun acc Γ2 hP => ?_⟩
  · obtain ⟨pla, ns, rfl, hpa, ea, hln, hns⟩ := hP
    refine ⟨nomu, fun s1 H1 Ca cl fp C' hC => ?_⟩
    refine xg_name 3 (lq rfl) (fr1 hC rfl) ?_ S.nd
    intro s1 H1 Ca cl fp
    refine xts_nil ?_
    refine ⟨fun hk => (nomatch hk), fun hk s1 H1 Ca cl fp => ?_⟩
    refine xe_add ?_
    refine xe_int ?_
    refine xe_callM 0 c_law_draw (hr.mono (by decide)) ?_
    refine xa_cons ?_
    refine xe_int ?_
    refine xa_nil ?_
    refine ⟨_, rfl, hpa, _, rfl, by decide, by decide, fun vb plb hvb hwb hpb => ?_⟩
    refine ⟨_, _, rfl, rfl, ?_⟩
    refine ⟨by rw [ea, List.length_map]; omega, plb, ns ++ [1 + vb], rfl, hpb, by rw [ea, dI, dI, List.map_append]; rfl, by rw [List.length_append, List.length_singleton]; omega, fun n hn => ?_⟩
    rcases List.mem_append.mp hn with h | h
    · exact hns n h
    · rcases List.mem_singleton.mp h with rfl
      omega
  obtain ⟨pl2, ns, rfl, hp2, ea, hln, hns⟩ := hP
  refine ⟨_, _, rfl, ?_⟩
  refine ⟨ns, rfl, ea, by omega, fun ms hup hms => ?_⟩
  have hmem : ∀ n ∈ ms, 1 ≤ n ∧ n ≤ 40 := fun n hn => hns n ((hms n).mp hn)
  have hmlen : ms.length ≤ 1000 - 1 := asc_len hup hmem
  refine ⟨lq rfl, fr1 rfl rfl, ?_⟩
  refine xb_one ?_
  refine xs_ret ?_
  refine xe_catT ?_
  refine xe_tup ?_
  refine xa_cons ?_
  refine xe_tup ?_
  refine xa_cons ?_
  refine xe_int ?_
  refine xa_cons ?_
  refine xe_callM 0 c_law_draw (hr.mono (by decide)) ?_
  refine xa_cons ?_
  refine xe_int ?_
  refine xa_nil ?_
  refine ⟨_, rfl, hp2, _, rfl, by decide, by decide, fun v3 pl3 hv3 hw3 hp3 => ?_⟩
  refine xa_nil ?_
  refine ⟨by simp, ?_⟩
  refine xa_nil ?_
  refine ⟨by simp, ?_⟩
  refine xe_tupleOf T.tuple ?_
  refine xq_e ?_
  refine xe_m ?_
  refine xm_lc [("wind", 4)] rfl S.nd (blkOk_by rfl) (pn1 rfl) ?_
  refine xi_seq ?_
  refine xe_var 2 rfl ?_
  refine ⟨_, _, rfl, ?_⟩
  refine ⟨fun i acc Γ => ∃ (pl : List PyData) (ps : List Pr), Γ = [.lst pl, .val (.int top), .val (.list (dI ms)), .no, .no] ∧ PoolOk pl ∧ acc = ps.map dP ∧ ps.map (·.1) = ms.take i, ⟨pl3, [], rfl, hp3, rfl, by simp⟩, fun i acc Γ2 hi hP => ?_, fun acc Γ2 hP => ?_⟩
  · obtain ⟨pl4, ps, rfl, hp4, ea, eps⟩ := hP
    have hlps : ps.length = i := by
      have := congrArg List.length eps
      rw [List.length_map, List.length_take] at this
      rw [List.length_map] at hi
      omega
    rw [List.length_map] at hi
    refine ⟨nomu, fun s1 H1 Ca cl fp C' hC => ?_⟩
    refine xg_eq (getD_map hi) ?_
    refine xg_name 4 (lq rfl) (fr1 hC rfl) ?_ S.nd
    intro s1 H1 Ca cl fp
    refine xts_nil ?_
    refine ⟨fun hk => (nomatch hk), fun hk s1 H1 Ca cl fp => ?_⟩
    refine xe_tup ?_
    refine xa_cons ?_
    refine xe_var 4 rfl ?_
    refine xa_cons ?_
    refine xe_callM 0 c_law_draw (hr.mono (by decide)) ?_
    refine xa_cons ?_
    refine xe_add ?_
    refine xe_var 1 rfl ?_
    refine xe_int ?_
    refine ⟨_, _, rfl, rfl, ?_⟩
    refine xa_nil ?_
    refine ⟨_, rfl, hp4, _, rfl, by omega, by omega, fun v5 pl5 hv5 hw5 hp5 => ?_⟩
    refine xa_nil ?_
    refine ⟨by simp, ?_⟩
    refine ⟨by rw [ea, List.length_map]; omega, pl5, ps ++ [(ms[i], v5)], rfl, hp5, by rw [ea, List.map_append]; rfl, ?_⟩
    rw [List.map_append, eps, take_one hi]
    rfl
  obtain ⟨pl6, ps, rfl, hp6, ea, eps⟩ := hP
  rw [List.length_map, List.take_length] at eps
  refine ⟨_, _, rfl, ?_⟩
  refine ⟨rfl, ?_⟩
  refine ⟨_, _, rfl, rfl, ?_⟩
  have hlps : ps.length = ms.length := by rw [← eps, List.length_map]
  rw [ea]
  refine ⟨?_, _, rfl, hq ((0, v3) :: ps) _ ⟨?_, ?_, ?_⟩ hp6⟩
  · rw [List.length_map, hlps, List.length_singleton]
    omega
  · refine List.pairwise_cons.mpr ⟨fun q hq2 => ?_, ?_⟩
    · have : q.1 ∈ ms := by rw [← eps]; exact List.mem_map_of_mem hq2
      exact (hmem _ this).1
    · rw [← eps] at hup
      exact List.pairwise_map.mp hup
  · intro q hq2
    rcases List.mem_cons.mp hq2 with rfl | hq2
    · exact ⟨Int.le_refl _, (by decide : (0 : Int) ≤ 40)⟩
    · have : q.1 ∈ ms := by rw [← eps]; exact List.mem_map_of_mem hq2
      have := hmem _ this
      omega
  · rw [List.length_cons, hlps]
    omega

def g_law_bounds (pl ds : List PyData) (Φ : PyData → List PyData → Prop) : Prop := PoolOk pl ∧ ∃ hours wide : Int, ds = [.int hours, .int wide] ∧ 0 < hours ∧ hours ≤ 100 ∧ 0 ≤ wide ∧ wide ≤ 100 ∧ ∀ (b : List Pr) (step : Int) pl', BoundsOk b step → PoolOk pl' → Φ (dB b step) pl'
def RowsOk (b : List Pr) : Prop := ∀ p ∈ b, 0 ≤ p.1 ∧ p.1 ≤ p.2 ∧ p.2 ≤ 40
theorem ok_law_bounds (D : Def K mg "_law_bounds" s_law_bounds ["pool", "hours", "wide"]) (T : Bi mg) (c_law_draw : Cal P w K mg base 2 "_law_draw" (spM K g_law_draw)) : Cal P w K mg base 3 "_law_bounds" (spM K g_law_bounds) := by
  have S := sc_law_bounds
  refine def_mut D S (fun pl ds Φ ⟨_, _, _, h, _⟩ => by rw [h]; rfl) fun f cdv A outer s H B E p pl ds Φ hr h => ?_
  obtain ⟨hp0, hours, wide, rfl, h0, h1, h2, h3, hq⟩ := h
  refine xb_cons ?_
  refine xs_asgM 3 ?_ S.nd
  refine (xm_lst ?_)
  refine xa_nil ?_
  refine ⟨by simp, ?_⟩
  refine ⟨lq rfl, fr1 rfl rfl, ?_⟩
  refine xb_cons ?_
  refine xs_for [4] PassesOwn.never rfl ?_
  refine xi_range1 T.range ?_
  refine xe_add ?_
  refine xe_int ?_
  refine xe_callM 0 c_law_draw (hr.mono (by decide)) ?_
  refine xa_cons ?_
  refine xe_var 1 rfl ?_
  refine xa_nil ?_
  refine ⟨_, rfl, hp0, _, rfl, h0, by omega, fun v1 pl1 hv1 hw1 hp1 => ?_⟩
  refine ⟨_, _, rfl, rfl, ?_⟩
  refine ⟨_, rfl, by omega, by omega, ?_⟩
  refine ⟨fun i Γ => ∃ (pl : List PyData) (b : List Pr) (ra : List PyData) (x y : GE), Γ = [.lst pl, .val (.int hours), .val (.int wide), .lst ra, x, y] ∧ PoolOk pl ∧ ra = b.map dP ∧ RowsOk b ∧ b.length = i, ⟨pl1, [], _, _, _, rfl, hp1, rfl, (fun _ h => nomatch h), rfl⟩, fun i Γ2 hi hP => ?_, fun Γ2 hP => ?_⟩
  · obtain ⟨pl2, b, ra, _, _, rfl, hp2, er, hb, hbl⟩ := hP
    refine xg_name 4 (lq rfl) (fr1 rfl rfl) ?_ S.nd
    refine xb_cons ?_
    refine xs_asg 5 ?_ S.nd
    refine xe_callM 0 c_law_draw (hr.mono (by decide)) ?_
    refine xa_cons ?_
    refine xe_int ?_
    refine xa_nil ?_
    refine ⟨_, rfl, hp2, _, rfl, by decide, by decide, fun v3 pl3 hv3 hw3 hp3 => ?_⟩
    refine ⟨lq rfl, fr1 rfl rfl, ?_⟩
    refine xb_cut (fun Γ => ∃ (pl : List PyData) (low : Int), Γ = [.lst pl, .val (.int hours), .val (.int wide), .lst ra, .val (.int (i : Nat)), .val (.int low)] ∧ PoolOk pl ∧ 0 ≤ low ∧ low ≤ 40) ?_ ?_
    rotate_left
    · rintro Γ1 ⟨pl6, low, rfl, hp6, hl0, hl1⟩
      refine xb_one ?_
      refine xs_append 3 ?_
      refine xe_tup ?_
      refine xa_cons ?_
      refine xe_var 5 rfl ?_
      refine xa_cons ?_
      refine xe_min2 rfl T.min ?_
      refine xa_cons ?_
      refine xe_int ?_
      refine xa_cons ?_
      refine xe_add ?_
      refine xe_var 5 rfl ?_
      refine xe_callM 0 c_law_draw (hr.mono (by decide)) ?_
      refine xa_cons ?_
      refine xe_add ?_
      refine xe_var 2 rfl ?_
      refine xe_int ?_
      refine ⟨_, _, rfl, rfl, ?_⟩
      refine xa_nil ?_
      refine ⟨_, rfl, hp6, _, rfl, by omega, by omega, fun v7 pl7 hv7 hw7 hp7 => ?_⟩
      refine ⟨_, _, rfl, rfl, ?_⟩
      refine xa_nil ?_
      refine ⟨_, _, rfl, ?_⟩
      refine xa_nil ?_
      refine ⟨by simp, ?_⟩
      refine ⟨_, rfl, by rw [er, List.length_map]; omega, ?_⟩
      refine ⟨pl7, b ++ [(low, min 40 (low + v7))], _, _, _, rfl, hp7, by rw [er, List.map_append]; rfl, fun p hp => ?_, by rw [List.length_append, List.length_singleton]; omega⟩
      rcases List.mem_append.mp hp with h | h
      · exact hb p h
      · rcases List.mem_singleton.mp h with rfl
        exact ⟨hl0, by show low ≤ min 40 (low + v7); omega, by show min 40 (low + v7) ≤ 40; omega⟩
    refine xs_if ?_
    refine Xt.mono (Φ := fun k Γ' => ∃ pl', PoolOk pl' ∧ Γ' = [.lst pl', .val (.int hours), .val (.int wide), .lst ra, .val (.int (i : Nat)), .val (.int v3)] ∧ (k = true → 0 < b.length)) ?_ ?_
    · refine xt_w ?_
      refine xw_and ?_
      refine xt_neM 3 hr.units rfl ?_
      refine xe_m (xm_lst ?_)
      refine xa_nil ?_
      refine ⟨by simp, ?_⟩
      refine ⟨rfl, by rw [er]; exact shaped_pairs b, rfl, ?_⟩
      rw [eqv_nil]
      refine ⟨fun hk => ⟨pl3, hp3, rfl, fun z => (nomatch z)⟩, fun hk => ?_⟩
      refine xw_and1 ?_
      refine xt_gt ?_
      refine xe_callM 0 c_law_draw (hr.mono (by decide)) ?_
      refine xa_cons ?_
      refine xe_int ?_
      refine xa_nil ?_
      refine ⟨_, rfl, hp3, _, rfl, by decide, by decide, fun v4 pl4 hv4 hw4 hp4 => ?_⟩
      refine xe_int ?_
      refine ⟨_, _, rfl, rfl, pl4, hp4, rfl, fun _ => ?_⟩
      rw [er, List.length_map] at hk
      simp at hk
      exact Nat.pos_of_ne_zero fun z => hk (List.eq_nil_of_length_eq_zero z)
    rintro kk Γ' ⟨pl4, hp4, rfl, hpos⟩
    refine ⟨fun hc => ?_, fun hc => ?_⟩
    · have hpos := hpos hc
      have hne := List.ne_nil_of_length_pos hpos
      have hlast : atI ra (-1) = some (dP (b.getLast hne)) := atL (by rw [er, List.getLast?_map, List.getLast?_eq_some_getLast hne]; rfl)
      have hlo := hb _ (List.getLast_mem hne)
      refine xb_one ?_
      refine xs_asg 5 ?_ S.nd
      refine xe_max2 rfl T.max ?_
      refine xa_cons ?_
      refine xe_int ?_
      refine xa_cons ?_
      refine xe_min2 rfl T.min ?_
      refine xa_cons ?_
      refine xe_int ?_
      refine xa_cons ?_
      refine xe_sub ?_
      refine xe_add ?_
      refine xe_ix ?_
      refine xe_ixM 3 ?_
      refine xe_neg ?_
      refine xe_int ?_
      refine ⟨_, rfl, ?_⟩
      refine ⟨_, _, _, rfl, rfl, hlast, ?_⟩
      refine xe_int ?_
      refine ⟨_, _, _, _, rfl, rfl, rfl, ?_⟩
      refine xe_callM 0 c_law_draw (hr.mono (by decide)) ?_
      refine xa_cons ?_
      refine xe_int ?_
      refine xa_nil ?_
      refine ⟨_, rfl, hp4, _, rfl, by decide, by decide, fun v5 pl5 hv5 hw5 hp5 => ?_⟩
      refine ⟨_, _, rfl, rfl, ?_⟩
      refine xe_int ?_
      refine ⟨_, _, rfl, rfl, ?_⟩
      refine xa_nil ?_
      refine ⟨_, _, rfl, ?_⟩
      refine xa_nil ?_
      refine ⟨_, _, rfl, ?_⟩
      refine ⟨lq rfl, fr1 rfl rfl, ?_⟩
      exact ⟨pl5, _, rfl, hp5, by omega, by omega⟩
    · refine xb_nil ?_
      exact ⟨pl4, v3, rfl, hp4, hv3, by omega⟩
  obtain ⟨pl8, b, ra, _, _, rfl, hp8, er, hb, hbl⟩ := hP
  refine xb_one ?_
  refine xs_ret ?_
  refine xe_tup ?_
  refine xa_cons ?_
  refine xe_tupleOf T.tuple ?_
  refine xq_m 3 rfl ?_
  refine ⟨rfl, ?_⟩
  refine xa_cons ?_
  refine xe_ix ?_
  refine xe_tup ?_
  refine xa_cons ?_
  refine xe_int ?_
  refine xa_cons ?_
  refine xe_int ?_
  refine xa_cons ?_
  refine xe_int ?_
  refine xa_cons ?_
  refine xe_int ?_
  refine xa_cons ?_
  refine xe_callM 0 c_law_draw (hr.mono (by decide)) ?_
  refine xa_cons ?_
  refine xe_int ?_
  refine xa_nil ?_
  refine ⟨_, rfl, hp8, _, rfl, by decide, by decide, fun v9 pl9 hv9 hw9 hp9 => ?_⟩
  refine xa_nil ?_
  refine ⟨by simp, ?_⟩
  refine xe_callM 0 c_law_draw (hr.mono (by decide)) ?_
  refine xa_cons ?_
  refine xe_int ?_
  refine xa_nil ?_
  refine ⟨_, rfl, hp9, _, rfl, by decide, by decide, fun v10 pl10 hv10 hw10 hp10 => ?_⟩
  refine ⟨_, _, _, .int ([0, 1, 2, 4, v9].getD v10.toNat 0), rfl, rfl, atN (i := v10.toNat) ?_ (by omega), ?_⟩
  · obtain ⟨j, rfl⟩ : ∃ j : Nat, v10 = (j : Int) := ⟨v10.toNat, by omega⟩
    have hj : j < 5 := by omega
    match j, hj with
    | 0, _ => rfl
    | 1, _ => rfl
    | 2, _ => rfl
    | 3, _ => rfl
    | 4, _ => rfl
  refine xa_nil ?_
  refine ⟨by simp, ?_⟩
  rw [er]
  refine ⟨_, rfl, hq b _ _ ⟨by omega, by omega, hb, ?_⟩ hp10⟩
  obtain ⟨j, rfl⟩ : ∃ j : Nat, v10 = (j : Int) := ⟨v10.toNat, by omega⟩
  have hj : j < 5 := by omega
  match j, hj with
  | 0, _ => exact (by decide : (0 : Int) ≤ 0 ∧ (0 : Int) ≤ 40)
  | 1, _ => exact (by decide : (0 : Int) ≤ 1 ∧ (1 : Int) ≤ 40)
  | 2, _ => exact (by decide : (0 : Int) ≤ 2 ∧ (2 : Int) ≤ 40)
  | 3, _ => exact (by decide : (0 : Int) ≤ 4 ∧ (4 : Int) ≤ 40)
  | 4, _ => exact ⟨hv9, show v9 ≤ 40 by omega⟩
end W99
end

section
namespace W99
open PySem L2 Gh
variable {P : Program} {w : World} {K : PySem.W.Frag} {mg : Str → Option Value} {base : Heap}

structure FarmGen (f : Farm) : Prop where
  ok : FarmOk f
  c1 : 1 ≤ f.cs.length
  c2 : f.cs.length ≤ 3
  m1 : 1 ≤ f.ms.length
  m2 : f.ms.length ≤ 4
  w : ∀ w ∈ f.ws, (0 ≤ w.1 ∧ w.1 < 4) ∧ (0 ≤ w.2.1 ∧ w.2.1 < f.ms.length) ∧ (0 ≤ w.2.2.1 ∧ w.2.2.1 < f.ms.length)
def WsOk (n : Int) (ws : List Wk) : Prop := ∀ w ∈ ws, (0 ≤ w.1 ∧ w.1 < 4) ∧ (0 ≤ w.2.1 ∧ w.2.1 < n) ∧ (0 ≤ w.2.2.1 ∧ w.2.2.1 < n) ∧ 0 ≤ w.2.2.2 ∧ w.2.2.2 ≤ 100
def g_law_farm (pl ds : List PyData) (Φ : PyData → List PyData → Prop) : Prop := PoolOk pl ∧ ∃ top : Int, ds = [.int 4, .int top] ∧ 0 ≤ top ∧ top ≤ 100 ∧ ∀ (f : Farm) pl', FarmGen f → PoolOk pl' → Φ (dF f) pl'
theorem ok_law_farm (D : Def K mg "_law_farm" s_law_farm ["pool", "most", "top"]) (T : Bi mg) (c_law_draw : Cal P w K mg base 2 "_law_draw" (spM K g_law_draw)) (c_law_curve : Cal P w K mg base 3 "_law_curve" (spM K g_law_curve)) : Cal P w K mg base 4 "_law_farm" (spM K g_law_farm) := by
  have S := sc_law_farm
  refine def_mut D S (fun pl ds Φ ⟨_, _, h, _⟩ => by rw [h]; rfl) fun f cdv A outer s H B E p pl ds Φ hr h => ?_
  obtain ⟨hp0, top, rfl, h0, h1, hq⟩ := h
  refine xb_cons ?_
  refine xs_asg 3 ?_ S.nd
  refine xe_tupleOf T.tuple ?_
  refine xq_e ?_
  refine xe_m ?_
  refine xm_lc [("k", 4)] rfl S.nd (blkOk_by rfl) (pn1 rfl) ?_
  refine xi_range1 T.range ?_
  refine xe_add ?_
  refine xe_int ?_
  refine xe_callM 0 c_law_draw (hr.mono (by decide)) ?_
  refine xa_cons ?_
  refine xe_int ?_
  refine xa_nil ?_
  refine ⟨_, rfl, hp0, _, rfl, by decide, by decide, fun v1 pl1 hv1 hw1 hp1 => ?_⟩
  refine ⟨_, _, rfl, rfl, ?_⟩
  refine ⟨_, rfl, by omega, by omega, ?_⟩
  refine ⟨fun i acc Γ => ∃ (pl : List PyData) (cs : List (List Pr)), Γ = [.lst pl, .val (.int 4), .val (.int top), .no, .no, .no, .no, .no, .no, .no] ∧ PoolOk pl ∧ acc = cs.map dC ∧ (∀ c ∈ cs, CurveOk c) ∧ cs.length = i, ⟨pl1, [], rfl, hp1, rfl, (fun _ h => nomatch h), rfl⟩, fun i acc Γ2 hi hP => ?_, fun acc Γ2 hP => ?_⟩
  · obtain ⟨pla, cs, rfl, hpa, ea, hcs, hcl⟩ := hP
    refine ⟨nomu, fun s1 H1 Ca cl fp C' hC => ?_⟩
    refine xg_name 4 (lq rfl) (fr1 hC rfl) ?_ S.nd
    intro s1 H1 Ca cl fp
    refine xts_nil ?_
    refine ⟨fun hk => (nomatch hk), fun hk s1 H1 Ca cl fp => ?_⟩
    refine xe_callM 0 c_law_curve (hr.mono (by decide)) ?_
    refine xa_cons ?_
    refine xe_var 2 rfl ?_
    refine xa_nil ?_
    refine ⟨_, rfl, hpa, _, rfl, h0, by omega, fun c plb hc hpb => ?_⟩
    refine ⟨by rw [ea, List.length_map]; omega, plb, cs ++ [c], rfl, hpb, by rw [ea, List.map_append]; rfl, fun x hx => ?_, by rw [List.length_append, List.length_singleton]; omega⟩
    rcases List.mem_append.mp hx with h | h
    · exact hcs x h
    · rcases List.mem_singleton.mp h with rfl
      exact hc
  obtain ⟨pl2, cs, rfl, hp2, ea, hcs, hcl⟩ := hP
  subst ea
  refine ⟨_, _, rfl, ?_⟩
  refine ⟨rfl, ?_⟩
  refine ⟨lq rfl, fr1 rfl rfl, ?_⟩
  refine xb_cons ?_
  refine xs_asg 5 ?_ S.nd
  refine xe_add ?_
  refine xe_int ?_
  refine xe_callM 0 c_law_draw (hr.mono (by decide)) ?_
  refine xa_cons ?_
  refine xe_var 1 rfl ?_
  refine xa_nil ?_
  refine ⟨_, rfl, hp2, _, rfl, by decide, by decide, fun v3 pl3 hv3 hw3 hp3 => ?_⟩
  refine ⟨_, _, rfl, rfl, ?_⟩
  refine ⟨lq rfl, fr1 rfl rfl, ?_⟩
  refine xb_cons ?_
  refine xs_asgM 6 ?_ S.nd
  refine (xm_lst ?_)
  refine xa_nil ?_
  refine ⟨by simp, ?_⟩
  refine ⟨lq rfl, fr1 rfl rfl, ?_⟩
  refine xb_cons ?_
  refine xs_for [7] PassesOwn.never rfl ?_
  refine xi_range1 T.range ?_
  refine xe_int ?_
  refine ⟨_, rfl, by decide, by decide, ?_⟩
  obtain ⟨many, em⟩ : ∃ many : Int, many = 1 + v3 := ⟨_, rfl⟩
  rw [← em]
  refine ⟨fun wh Γ => ∃ (pl : List PyData) (ws : List Wk) (wa : List PyData) (x y z : GE), Γ = [.lst pl, .val (.int 4), .val (.int top), .val (.tuple (cs.map dC)), .no, .val (.int many), .lst wa, x, y, z] ∧ PoolOk pl ∧ wa = ws.map dW ∧ WsOk many ws ∧ ws.length ≤ 16 * wh, ⟨pl3, [], _, _, _, _, rfl, hp3, rfl, (fun _ h => nomatch h), Nat.zero_le _⟩, fun wh Γ2 hwh hP => ?_, fun Γ2 hP => ?_⟩
  · obtain ⟨pla, ws, wa, _, _, _, rfl, hpa, ew, hws, hwl⟩ := hP
    have hwh : wh < 4 := hwh
    refine xg_name 7 (lq rfl) (fr1 rfl rfl) ?_ S.nd
    refine xb_one ?_
    refine xs_for [8] PassesOwn.never rfl ?_
    refine xi_range1 T.range ?_
    refine xe_var 5 rfl ?_
    refine ⟨_, rfl, by omega, by omega, ?_⟩
    refine ⟨fun i Γ => ∃ (pl : List PyData) (ws : List Wk) (wa : List PyData) (y z : GE), Γ = [.lst pl, .val (.int 4), .val (.int top), .val (.tuple (cs.map dC)), .no, .val (.int many), .lst wa, .val (.int (wh : Nat)), y, z] ∧ PoolOk pl ∧ wa = ws.map dW ∧ WsOk many ws ∧ ws.length ≤ 16 * wh + 4 * i, ⟨pla, ws, wa, _, _, rfl, hpa, ew, hws, by omega⟩, fun i Γ2 hi hP => ?_, fun Γ2 hP => ?_⟩
    · obtain ⟨pla, ws, wa, _, _, rfl, hpa, ew, hws, hwl⟩ := hP
      have hi : (i : Int) < many := by omega
      refine xg_name 8 (lq rfl) (fr1 rfl rfl) ?_ S.nd
      refine xb_one ?_
      refine xs_for [9] PassesOwn.never rfl ?_
      refine xi_range1 T.range ?_
      refine xe_var 5 rfl ?_
      refine ⟨_, rfl, by omega, by omega, ?_⟩
      refine ⟨fun j Γ => ∃ (pl : List PyData) (ws : List Wk) (wa : List PyData) (z : GE), Γ = [.lst pl, .val (.int 4), .val (.int top), .val (.tuple (cs.map dC)), .no, .val (.int many), .lst wa, .val (.int (wh : Nat)), .val (.int (i : Nat)), z] ∧ PoolOk pl ∧ wa = ws.map dW ∧ WsOk many ws ∧ ws.length ≤ 16 * wh + 4 * i + j, ⟨pla, ws, wa, _, rfl, hpa, ew, hws, by omega⟩, fun j Γ2 hj hP => ?_, fun Γ2 hP => ?_⟩
      · obtain ⟨pla, ws, wa, _, rfl, hpa, ew, hws, hwl⟩ := hP
        have hj : (j : Int) < many := by omega
        refine xg_name 9 (lq rfl) (fr1 rfl rfl) ?_ S.nd
        refine xb_one ?_
        refine xs_if ?_
        refine Xt.mono (Φ := fun k Γ' => ∃ plx, PoolOk plx ∧ Γ' = [.lst plx, .val (.int 4), .val (.int top), .val (.tuple (cs.map dC)), .no, .val (.int many), .lst wa, .val (.int (wh : Nat)), .val (.int (i : Nat)), .val (.int (j : Nat))]) ?_ ?_
        · refine xt_w ?_
          refine xw_and ?_
          refine xt_neI ?_
          refine xe_var 8 rfl ?_
          refine xe_var 9 rfl ?_
          refine ⟨_, _, rfl, rfl, ?_⟩
          refine ⟨fun hk => ⟨pla, hpa, rfl⟩, fun hk => ?_⟩
          refine xw_and1 ?_
          refine xt_eqI ?_
          refine xe_callM 0 c_law_draw (hr.mono (by decide)) ?_
          refine xa_cons ?_
          refine xe_int ?_
          refine xa_nil ?_
          refine ⟨_, rfl, hpa, _, rfl, by decide, by decide, fun v5 pl5 hv5 hw5 hp5 => ?_⟩
          refine xe_int ?_
          refine ⟨_, _, rfl, rfl, pl5, hp5, rfl⟩
        rintro kk Γ' ⟨plx, hpx, rfl⟩
        refine ⟨fun hc => ?_, fun hc => ?_⟩
        ·
          refine xb_one ?_
          refine xs_append 6 ?_
          refine xe_tup ?_
          refine xa_cons ?_
          refine xe_var 7 rfl ?_
          refine xa_cons ?_
          refine xe_var 8 rfl ?_
          refine xa_cons ?_
          refine xe_var 9 rfl ?_
          refine xa_cons ?_
          refine xe_add ?_
          refine xe_int ?_
          refine xe_callM 0 c_law_draw (hr.mono (by decide)) ?_
          refine xa_cons ?_
          refine xe_ix ?_
          refine xe_tup ?_
          refine xa_cons ?_
          refine xe_int ?_
          refine xa_cons ?_
          refine xe_int ?_
          refine xa_nil ?_
          refine ⟨by simp, ?_⟩
          refine xe_callM 0 c_law_draw (hr.mono (by decide)) ?_
          refine xa_cons ?_
          refine xe_int ?_
          refine xa_nil ?_
          refine ⟨_, rfl, hpx, _, rfl, by decide, by decide, fun v6 pl6 hv6 hw6 hp6 => ?_⟩
          refine ⟨_, _, _, .int ([30, 100].getD v6.toNat 0), rfl, rfl, atN (i := v6.toNat) ?_ (by omega), ?_⟩
          · obtain ⟨q, rfl⟩ : ∃ q : Nat, v6 = (q : Int) := ⟨v6.toNat, by omega⟩
            have hq2 : q < 2 := by omega
            match q, hq2 with
            | 0, _ => rfl
            | 1, _ => rfl
          refine xa_nil ?_
          have hb : 0 < ([30, 100].getD v6.toNat 0 : Int) ∧ ([30, 100].getD v6.toNat 0 : Int) ≤ 100 := by
            obtain ⟨q, rfl⟩ : ∃ q : Nat, v6 = (q : Int) := ⟨v6.toNat, by omega⟩
            have hq2 : q < 2 := by omega
            match q, hq2 with
            | 0, _ => exact (by decide : (0 : Int) < 30 ∧ (30 : Int) ≤ 100)
            | 1, _ => exact (by decide : (0 : Int) < 100 ∧ (100 : Int) ≤ 100)
          refine ⟨_, rfl, hp6, _, rfl, hb.1, by omega, fun v7 pl7 hv7 hw7 hp7 => ?_⟩
          refine ⟨_, _, rfl, rfl, ?_⟩
          refine xa_nil ?_
          refine ⟨by simp, ?_⟩
          refine ⟨_, rfl, by rw [ew, List.length_map]; omega, ?_⟩
          refine ⟨pl7, ws ++ [((wh : Int), (i : Int), (j : Int), 1 + v7)], _, _, rfl, hp7, by rw [ew, List.map_append]; rfl, fun x hx => ?_, by rw [List.length_append, List.length_singleton]; omega⟩
          rcases List.mem_append.mp hx with h | h
          · exact hws x h
          · rcases List.mem_singleton.mp h with rfl
            exact ⟨⟨by show (0 : Int) ≤ (wh : Int); omega, by show (wh : Int) < 4; omega⟩, ⟨by show (0 : Int) ≤ (i : Int); omega, hi⟩, ⟨by show (0 : Int) ≤ (j : Int); omega, hj⟩, by show 0 ≤ 1 + v7; omega, by show 1 + v7 ≤ 100; omega⟩
        · refine xb_nil ?_
          exact ⟨plx, ws, _, _, rfl, hpx, ew, hws, by omega⟩
      obtain ⟨pla, ws, wa, _, rfl, hpa, ew, hws, hwl⟩ := hP
      exact ⟨pla, ws, _, _, _, rfl, hpa, ew, hws, by omega⟩
    obtain ⟨pla, ws, wa, _, _, rfl, hpa, ew, hws, hwl⟩ := hP
    exact ⟨pla, ws, _, _, _, _, rfl, hpa, ew, hws, by omega⟩
  obtain ⟨pl8, ws, wa, gx, gy, gz, rfl, hp8, ew, hws, hwl⟩ := hP
  have hwl : ws.length ≤ 64 := hwl
  refine xb_one ?_
  refine xs_ret ?_
  refine xe_tup ?_
  refine xa_cons ?_
  refine xe_var 3 rfl ?_
  refine xa_cons ?_
  refine xe_tupleOf T.tuple ?_
  refine xq_e ?_
  refine xe_m ?_
  refine xm_lc [("k", 4)] rfl S.nd (blkOk_by rfl) (pn1 rfl) ?_
  refine xi_range1 T.range ?_
  refine xe_var 5 rfl ?_
  refine ⟨_, rfl, by omega, by omega, ?_⟩
  refine ⟨fun i acc Γ => ∃ (pl : List PyData) (ms : List Int), Γ = [.lst pl, .val (.int 4), .val (.int top), .val (.tuple (cs.map dC)), .no, .val (.int many), .lst wa, gx, gy, gz] ∧ PoolOk pl ∧ acc = dI ms ∧ (∀ k ∈ ms, 0 ≤ k ∧ k < cs.length) ∧ ms.length = i, ⟨pl8, [], rfl, hp8, rfl, (fun _ h => nomatch h), rfl⟩, fun i acc Γ2 hi hP => ?_, fun acc Γ2 hP => ?_⟩
  · obtain ⟨pla, ms, rfl, hpa, ea, hms, hml⟩ := hP
    have hi : (i : Int) < many := by omega
    refine ⟨nomu, fun s1 H1 Ca cl fp C' hC => ?_⟩
    refine xg_name 4 (lq rfl) (fr1 hC rfl) ?_ S.nd
    intro s1 H1 Ca cl fp
    refine xts_nil ?_
    refine ⟨fun hk => (nomatch hk), fun hk s1 H1 Ca cl fp => ?_⟩
    refine xe_callM 0 c_law_draw (hr.mono (by decide)) ?_
    refine xa_cons ?_
    refine xe_len T.len ?_
    refine xq_e ?_
    refine xe_var 3 rfl ?_
    refine ⟨_, _, rfl, ?_⟩
    refine xa_nil ?_
    refine ⟨_, rfl, hpa, _, rfl, by rw [List.length_map]; omega, by rw [List.length_map]; omega, fun v9 pl9 hv9 hw9 hp9 => ?_⟩
    rw [List.length_map] at hw9
    refine ⟨by rw [ea, List.length_map]; omega, pl9, ms ++ [v9], rfl, hp9, by rw [ea, dI, dI, List.map_append]; rfl, fun x hx => ?_, by rw [List.length_append, List.length_singleton]; omega⟩
    rcases List.mem_append.mp hx with h | h
    · exact hms x h
    · rcases List.mem_singleton.mp h with rfl
      exact ⟨hv9, hw9⟩
  obtain ⟨pl9, ms, rfl, hp9, ea, hms, hml⟩ := hP
  refine ⟨_, _, rfl, ?_⟩
  refine ⟨rfl, ?_⟩
  refine xa_cons ?_
  refine xe_tupleOf T.tuple ?_
  refine xq_m 6 rfl ?_
  refine ⟨rfl, ?_⟩
  refine xa_nil ?_
  refine ⟨by simp, ?_⟩
  rw [ea, ew]
  refine ⟨_, rfl, hq ⟨cs, ms, ws⟩ _ ⟨⟨hcs, hms, fun x hx => (hws x hx).2.2.2, by show ms.length ≤ 1000; omega, by show ws.length ≤ 1000; omega⟩, by show 1 ≤ cs.length; omega, by show cs.length ≤ 3; omega, by show 1 ≤ ms.length; omega, by show ms.length ≤ 4; omega, fun x hx => ?_⟩ hp9⟩
  have hx2 := hws x hx
  have hmn : (ms.length : Int) = many := by omega
  show (0 ≤ x.1 ∧ x.1 < 4) ∧ (0 ≤ x.2.1 ∧ x.2.1 < (ms.length : Int)) ∧ (0 ≤ x.2.2.1 ∧ x.2.2.1 < (ms.length : Int))
  rw [hmn]
  exact ⟨hx2.1, hx2.2.1, hx2.2.2.1⟩
end W99
end

section
namespace W99
open PySem L2 Gh
variable {P : Program} {w : World} {K : PySem.W.Frag} {mg : Str → Option Value} {base : Heap}

/-! ### a farm renamed -/
/-- what stands at k -/
def atF (l : List Int) (k : Int) : Int := l.getD k.toNat 0
def rgI (n : Nat) : List Int := (List.range n).map fun (i : Nat) => (i : Int)
def renC (f : Farm) (kd : List Int) : List (List Pr) := (List.range f.cs.length).map fun (j : Nat) => f.cs.getD (kd.idxOf (j : Int)) []
def renM (f : Farm) (nm kd : List Int) : List Int := (List.range f.ms.length).map fun (j : Nat) => atF kd (f.ms.getD (nm.idxOf (j : Int)) 0)
def renW (f : Farm) (nm sd : List Int) : List Wk := f.ws.map fun w => (atF sd w.1, atF nm w.2.1, atF nm w.2.2.1, w.2.2.2)
theorem rg_len (n : Nat) : (rgI n).length = n := by simp [rgI]
theorem rg_nodup (n : Nat) : (rgI n).Nodup := by
  unfold rgI
  exact List.Pairwise.map _ (fun a b h e => h (by omega)) List.nodup_range
theorem rg_mem {n : Nat} {k : Int} : k ∈ rgI n ↔ 0 ≤ k ∧ k < n := by
  unfold rgI
  rw [List.mem_map]
  constructor
  · rintro ⟨i, hi, rfl⟩
    have := List.mem_range.mp hi
    omega
  · rintro ⟨h1, h2⟩
    exact ⟨k.toNat, List.mem_range.mpr (by omega), by omega⟩
theorem perm_len {nm : List Int} {n : Nat} (h : nm.Perm (rgI n)) : nm.length = n := by rw [h.length_eq, rg_len]
theorem perm_at {nm : List Int} {n : Nat} (h : nm.Perm (rgI n)) {i : Nat} (hi : i < n) : ∃ hl : i < nm.length, 0 ≤ nm[i] ∧ nm[i] < n := by
  have hl : i < nm.length := by rw [perm_len h]; exact hi
  exact ⟨hl, rg_mem.mp (h.mem_iff.mp (List.getElem_mem hl))⟩
theorem perm_inj {nm : List Int} {n : Nat} (h : nm.Perm (rgI n)) {i j : Nat} (hi : i < nm.length) (hj : j < nm.length) (e : nm[i] = nm[j]) : i = j := by
  have hp := List.pairwise_iff_getElem.mp (h.nodup_iff.mpr (rg_nodup n))
  rcases Nat.lt_trichotomy i j with q | q | q
  · exact absurd e (hp i j hi hj q)
  · exact q
  · exact absurd e.symm (hp j i hj hi q)
theorem perm_idx {nm : List Int} {n : Nat} (h : nm.Perm (rgI n)) {j : Nat} (hj : j < n) : ∃ hl : nm.idxOf (j : Int) < nm.length, nm[nm.idxOf (j : Int)] = (j : Int) := by
  have hm : (j : Int) ∈ nm := h.mem_iff.mpr (rg_mem.mpr ⟨by omega, by omega⟩)
  exact ⟨List.idxOf_lt_length_iff.mpr hm, List.getElem_idxOf _⟩
theorem atF_at {nm : List Int} {i : Nat} (hi : i < nm.length) : atF nm (i : Int) = nm[i] := by simp [atF, List.getD_eq_getElem?_getD, hi]
theorem atF_ix {nm : List Int} {k : Int} (h0 : 0 ≤ k) (h1 : k < nm.length) : atI (dI nm) k = some (.int (atF nm k)) := by
  obtain ⟨i, rfl⟩ : ∃ i : Nat, k = (i : Int) := ⟨k.toNat, by omega⟩
  have hi : i < nm.length := by omega
  rw [atF_at hi]
  exact atNM (List.getElem?_eq_getElem hi) rfl
theorem ixN_at {n : Nat} {k : Int} (h0 : 0 ≤ k) (h1 : k < n) : ixN n k = some k.toNat := by
  unfold ixN
  rw [if_pos h0, if_pos h1]
/-- filled place by place, by a way through all places -/
theorem fill_all {nm : List Int} {n : Nat} (hp : nm.Perm (rgI n)) {ta : List PyData} (hl : ta.length = n) (f : Nat → PyData) (h : ∀ k (hk : k < nm.length), ta[(nm[k]).toNat]? = some (f k)) : ta = (List.range n).map fun (j : Nat) => f (nm.idxOf (j : Int)) := by
  refine List.ext_getElem (by rw [List.length_map, List.length_range, hl]) fun j h1 h2 => ?_
  have hj : j < n := by omega
  obtain ⟨hi, e⟩ := perm_idx hp hj
  have := h _ hi
  rw [e, Int.toNat_natCast, List.getElem?_eq_getElem h1] at this
  rw [List.getElem_map, List.getElem_range]
  exact Option.some.inj this
theorem fill_step {nm : List Int} {n : Nat} (hp : nm.Perm (rgI n)) {ta : List PyData} (hl : ta.length = n) (f : Nat → PyData) {i : Nat} (hi : i < nm.length) (h : ∀ k (hk : k < nm.length), k < i → ta[(nm[k]).toNat]? = some (f k)) :
    (ta.set (nm[i]).toNat (f i)).length = n ∧ ∀ k (hk : k < nm.length), k < i + 1 → (ta.set (nm[i]).toNat (f i))[(nm[k]).toNat]? = some (f k) := by
  refine ⟨by rw [List.length_set, hl], fun k hk hki => ?_⟩
  obtain ⟨_, b1, b2⟩ := perm_at hp (i := i) (by rw [← perm_len hp]; exact hi)
  obtain ⟨_, b3, b4⟩ := perm_at hp (i := k) (by rw [← perm_len hp]; exact hk)
  by_cases e : k = i
  · subst e
    rw [List.getElem?_set_self (by omega)]
  · rw [List.getElem?_set_ne (fun z => e (perm_inj hp hk hi (by omega)))]
    exact h k hk (by omega)
def g_law_farm_renamed (ds : List PyData) (Φ : PyData → Prop) : Prop := ∃ (f : Farm) (nm kd sd : List Int), ds = [dF f, .list (dI nm), .list (dI kd), .list (dI sd)] ∧ FarmGen f ∧ nm.Perm (rgI f.ms.length) ∧ kd.Perm (rgI f.cs.length) ∧ sd.Perm (rgI 4) ∧ ∀ ws : List Wk, ws.Perm (renW f nm sd) → Φ (dF ⟨renC f kd, renM f nm kd, ws⟩)
theorem alike_wk (a b : Wk) : PySem.W.alike (dW a) (dW b) = true := by simp [PySem.W.alike, PySem.W.alikeAll]
theorem ok_law_farm_renamed (D : Def K mg "_law_farm_renamed" s_law_farm_renamed ["farm", "names", "kinds", "sides"]) (T : Bi mg) : Cal P w K mg base 1 "_law_farm_renamed" (spP K g_law_farm_renamed) := by
  have S := sc_law_farm_renamed
  refine def_pure D S (fun ds Φ ⟨_, _, _, _, h, _⟩ => by rw [h]; rfl) fun fa cdv A outer s H B E ds Φ hr h => ?_
  obtain ⟨f, nm, kd, sd, rfl, hf, hn, hk, hs, hq⟩ := h
  have hc2 := hf.c2
  have hm2 := hf.m2
  refine xb_cons ?_
  refine xs_asgT [4, 5, 6] ?_
  refine xe_var 0 rfl ?_
  refine xg_tup rfl ⟨_, rfl, rfl, ?_⟩
  refine xgs_nm 4 (lq rfl) (fr0 rfl) ?_ S.nd
  refine xgs_nm 5 (lq rfl) (fr0 rfl) ?_ S.nd
  refine xgs_nm 6 (lq rfl) (fr0 rfl) ?_ S.nd
  refine xgs_nil ?_
  refine xb_cons ?_
  refine xs_parM 7 8 rfl ?_ S.nd
  refine xm_lc [("curve", 9)] rfl S.nd (blkOk_by rfl) (fun _ h => nomatch h) (lc_pure ?_)
  refine xi_seq ?_
  refine xe_var 4 rfl ?_
  refine ⟨_, _, rfl, ?_⟩
  rw [List.length_map]
  refine ⟨by omega, fun _ => true, fun _ => .tuple [], fun i hi => ?turn, ?_⟩
  case turn =>
    refine ⟨nomu, fun s1 H1 Ca cl fp C' hC => ?_⟩
    refine xg_name 9 (lq rfl) (fr0 hC) ?_ S.nd
    intro s1 H1 Ca cl fp
    refine xts_nil ?_
    refine ⟨fun hk => (nomatch hk), fun hk s1 H1 Ca cl fp => ?_⟩
    refine xe_tup ?_
    refine xa_nil ?_
    refine ⟨by simp, ?_⟩
    exact ⟨rfl, rfl, rfl⟩
  intro C1 hC1
  refine xm_lc [("machine", 10)] rfl S.nd (blkOk_by rfl) (by rw [hC1]; exact fun _ h => nomatch h) (lc_pure ?_)
  refine xi_seq ?_
  refine xe_var 5 rfl ?_
  refine ⟨_, _, rfl, ?_⟩
  rw [List.length_map]
  refine ⟨by omega, fun _ => true, fun _ => .int 0, fun i hi => ?turn, ?_⟩
  case turn =>
    refine ⟨nomu, fun s1 H1 Ca cl fp C' hC => ?_⟩
    refine xg_name 10 (lq rfl) (fr0 (hC.trans hC1)) ?_ S.nd
    intro s1 H1 Ca cl fp
    refine xts_nil ?_
    refine ⟨fun hk => (nomatch hk), fun hk s1 H1 Ca cl fp => ?_⟩
    refine xe_int ?_
    exact ⟨rfl, rfl, rfl⟩
  refine ⟨lq rfl, lq rfl, fr0 rfl, fr0 rfl, ?_⟩
  refine xb_cons ?_
  refine xs_for [11] PassesOwn.never rfl ?_
  refine xi_range1 T.range ?_
  refine xe_len T.len ?_
  refine xq_e ?_
  refine xe_var 4 rfl ?_
  refine ⟨_, _, rfl, ?_⟩
  rw [List.length_map]
  refine ⟨_, rfl, by omega, by omega, ?_⟩
  refine ⟨fun i Γ => ∃ (ta pa : List PyData) (x : GE), Γ = [.val (dF f), .val (.list (dI nm)), .val (.list (dI kd)), .val (.list (dI sd)), .val (.tuple (f.cs.map dC)), .val (.tuple (dI f.ms)), .val (.tuple (f.ws.map dW)), .lst ta, .lst pa, .no, .no, x, .no, .no, .no, .no] ∧ ta.length = f.cs.length ∧ pa.length = f.ms.length ∧ ∀ k (hk : k < kd.length), k < i → ta[(kd[k]).toNat]? = some (dC (f.cs.getD k [])), ⟨_, _, _, rfl, by rw [filter_all, List.length_map, List.length_range], by rw [filter_all, List.length_map, List.length_range], fun _ _ h => absurd h (Nat.not_lt_zero _)⟩, fun i Γ2 hi hP => ?_, fun Γ2 hP => ?_⟩
  · obtain ⟨ta, pa, _, rfl, hta, hpa, hfill⟩ := hP
    have hi : i < f.cs.length := by omega
    obtain ⟨hik, b1, b2⟩ := perm_at hk hi
    refine xg_name 11 (lq rfl) (fr0 rfl) ?_ S.nd
    refine xb_one ?_
    refine xs_setIx 7 ?_
    refine xe_ix ?_
    refine xe_var 4 rfl ?_
    refine xe_var 11 rfl ?_
    refine ⟨_, _, _, _, rfl, rfl, atNM (getElem?_getD [] hi) rfl, ?_⟩
    refine xe_ix ?_
    refine xe_var 2 rfl ?_
    refine xe_var 11 rfl ?_
    refine ⟨_, _, _, _, rfl, rfl, atNM (List.getElem?_eq_getElem hik) rfl, ?_⟩
    refine ⟨_, _, _, rfl, rfl, ixN_at b1 (by omega), ?_⟩
    obtain ⟨h1, h2⟩ := fill_step hk hta (fun k => dC (f.cs.getD k [])) hik hfill
    exact ⟨_, _, _, rfl, h1, hpa, h2⟩
  obtain ⟨ta, pa, gx, rfl, hta, hpa, hfill⟩ := hP
  have eta := fill_all hk hta (fun k => dC (f.cs.getD k [])) fun k hkl => hfill k hkl (by rw [← perm_len hk]; omega)
  refine xb_cons ?_
  refine xs_for [11] PassesOwn.never rfl ?_
  refine xi_range1 T.range ?_
  refine xe_len T.len ?_
  refine xq_e ?_
  refine xe_var 5 rfl ?_
  refine ⟨_, _, rfl, ?_⟩
  rw [List.length_map]
  refine ⟨_, rfl, by omega, by omega, ?_⟩
  refine ⟨fun i Γ => ∃ (pa : List PyData) (x : GE), Γ = [.val (dF f), .val (.list (dI nm)), .val (.list (dI kd)), .val (.list (dI sd)), .val (.tuple (f.cs.map dC)), .val (.tuple (dI f.ms)), .val (.tuple (f.ws.map dW)), .lst ta, .lst pa, .no, .no, x, .no, .no, .no, .no] ∧ pa.length = f.ms.length ∧ ∀ k (hk : k < nm.length), k < i → pa[(nm[k]).toNat]? = some (.int (atF kd (f.ms.getD k 0))), ⟨_, _, rfl, hpa, fun _ _ h => absurd h (Nat.not_lt_zero _)⟩, fun i Γ2 hi hP => ?_, fun Γ2 hP => ?_⟩
  · obtain ⟨pa, _, rfl, hpa, hfill⟩ := hP
    have hi : i < f.ms.length := by omega
    obtain ⟨hin, b1, b2⟩ := perm_at hn hi
    have hms := hf.ok.ms _ (List.getElem_mem hi)
    have e0 : f.ms.getD i 0 = f.ms[i] := by simp [List.getD_eq_getElem?_getD, hi]
    have hkl := perm_len hk
    refine xg_name 11 (lq rfl) (fr0 rfl) ?_ S.nd
    refine xb_one ?_
    refine xs_setIx 8 ?_
    refine xe_ix ?_
    refine xe_var 2 rfl ?_
    refine xe_ix ?_
    refine xe_var 5 rfl ?_
    refine xe_var 11 rfl ?_
    refine ⟨_, _, _, _, rfl, rfl, atNM (getElem?_getD 0 hi) rfl, ?_⟩
    refine ⟨_, _, _, _, rfl, rfl, atF_ix (by rw [e0]; exact hms.1) (by rw [e0, hkl]; exact hms.2), ?_⟩
    refine xe_ix ?_
    refine xe_var 1 rfl ?_
    refine xe_var 11 rfl ?_
    refine ⟨_, _, _, _, rfl, rfl, atNM (List.getElem?_eq_getElem hin) rfl, ?_⟩
    refine ⟨_, _, _, rfl, rfl, ixN_at b1 (by omega), ?_⟩
    obtain ⟨h1, h2⟩ := fill_step hn hpa (fun k => .int (atF kd (f.ms.getD k 0))) hin hfill
    exact ⟨_, _, rfl, h1, h2⟩
  obtain ⟨pa, gx, rfl, hpa, hfill⟩ := hP
  have epa := fill_all hn hpa (fun k => .int (atF kd (f.ms.getD k 0))) fun k hkl => hfill k hkl (by rw [← perm_len hn]; omega)
  refine xb_one ?_
  refine xs_ret ?_
  refine xe_tup ?_
  refine xa_cons ?_
  refine xe_tupleOf T.tuple ?_
  refine xq_m 7 rfl ?_
  refine ⟨rfl, ?_⟩
  refine xa_cons ?_
  refine xe_tupleOf T.tuple ?_
  refine xq_m 8 rfl ?_
  refine ⟨rfl, ?_⟩
  refine xa_cons ?_
  refine xe_tupleOf T.tuple ?_
  refine xq_e ?_
  refine xe_m (xm_sortedD hr.units T.sorted ?_)
  refine xq_e ?_
  refine xe_m ?_
  refine xm_lc [("way", 12), ("i", 13), ("j", 14), ("part", 15)] rfl S.nd (blkOk_by rfl) (fun _ h => nomatch h) (lc_pure ?_)
  refine xi_seq ?_
  refine xe_var 6 rfl ?_
  refine ⟨_, _, rfl, ?_⟩
  rw [List.length_map]
  have hlw := hf.ok.lw
  refine ⟨by omega, fun _ => true, fun i => (fun w : Wk => dW (atF sd w.1, atF nm w.2.1, atF nm w.2.2.1, w.2.2.2)) (f.ws.getD i (0, 0, 0, 0)), fun i hi => ?turn, ?_⟩
  case turn =>
    refine ⟨nomu, fun s1 H1 Ca cl fp C' hC => ?_⟩
    refine xg_eq (getD_mapD (0, 0, 0, 0) hi) ?_
    refine xg_tup rfl ⟨_, rfl, rfl, ?_⟩
    refine xgs_nm 12 (lq rfl) (fr0 hC) ?_ S.nd
    refine xgs_nm 13 (lq rfl) (fr0 hC) ?_ S.nd
    refine xgs_nm 14 (lq rfl) (fr0 hC) ?_ S.nd
    refine xgs_nm 15 (lq rfl) (fr0 hC) ?_ S.nd
    refine xgs_nil ?_
    intro s1 H1 Ca cl fp
    refine xts_nil ?_
    refine ⟨fun hk => (nomatch hk), fun hk s1 H1 Ca cl fp => ?_⟩
    refine xe_tup ?_
    refine xa_cons ?_
    refine xe_ix ?_
    refine xe_var 3 rfl ?_
    refine xe_var 12 rfl ?_
    have hw := hf.w _ (List.getElem_mem hi)
    have ew : f.ws.getD i (0, 0, 0, 0) = f.ws[i] := by simp [List.getD_eq_getElem?_getD, hi]
    have hsl := perm_len hs
    have hnl := perm_len hn
    refine ⟨_, _, _, _, rfl, rfl, atF_ix (by rw [ew]; exact hw.1.1) (by rw [ew, hsl]; exact hw.1.2), ?_⟩
    refine xa_cons ?_
    refine xe_ix ?_
    refine xe_var 1 rfl ?_
    refine xe_var 13 rfl ?_
    refine ⟨_, _, _, _, rfl, rfl, atF_ix (by rw [ew]; exact hw.2.1.1) (by rw [ew, hnl]; exact hw.2.1.2), ?_⟩
    refine xa_cons ?_
    refine xe_ix ?_
    refine xe_var 1 rfl ?_
    refine xe_var 14 rfl ?_
    refine ⟨_, _, _, _, rfl, rfl, atF_ix (by rw [ew]; exact hw.2.2.1) (by rw [ew, hnl]; exact hw.2.2.2), ?_⟩
    refine xa_cons ?_
    refine xe_var 15 rfl ?_
    refine xa_nil ?_
    refine ⟨by simp, ?_⟩
    exact ⟨rfl, rfl, rfl⟩
  refine ⟨_, _, rfl, ?_⟩
  rw [map_getD_all f.ws (0, 0, 0, 0) (fun w : Wk => dW (atF sd w.1, atF nm w.2.1, atF nm w.2.2.1, w.2.2.2))]
  have er : f.ws.map (fun w : Wk => dW (atF sd w.1, atF nm w.2.1, atF nm w.2.2.1, w.2.2.2)) = (renW f nm sd).map dW := by rw [renW, List.map_map]; rfl
  rw [er]
  refine ⟨rfl, fun d hd d' hd' => ?_, .inl fun d hd => ?_, fun d hd => ?_, ?_⟩
  · obtain ⟨x, _, rfl⟩ := List.mem_map.mp hd
    obtain ⟨y, _, rfl⟩ := List.mem_map.mp hd'
    exact alike_wk x y
  · obtain ⟨x, _, rfl⟩ := List.mem_map.mp hd
    exact ⟨_, _, rfl⟩
  · obtain ⟨x, _, rfl⟩ := List.mem_map.mp hd
    simp [PyData.depth, PyData.depthAll]
  refine ⟨_, _, rfl, ?_⟩
  refine ⟨rfl, ?_⟩
  refine xa_nil ?_
  refine ⟨by simp, ?_⟩
  obtain ⟨ws, e1, hpw⟩ := perm_coded dW (List.mergeSort_perm ((renW f nm sd).map dW) (PySem.W.dataLe false id))
  have := hq ws hpw
  rw [e1, eta, epa]
  simp only [dF, renC, renM, dI, List.map_map] at this
  exact this
end W99
end

section
namespace W99
open PySem L2 Gh
variable {P : Program} {w : World} {K : PySem.W.Frag} {mg : Str → Option Value} {base : Heap}
/-! ### no weather -/
def g_gap (ds : List PyData) : Prop := ∃ (b : List Pr) (step : Int), ds = [dB b step] ∧ BoundsOk b step ∧ ¬ NoGap b step
theorem ok_narrowed_gap {Cw : Addr} (D : Def K mg "narrowed" s_narrowed ["bounds"]) (T : Bi mg) (G : OwnEx K mg "NoWeather" Cw) (c_first_gap : Cal P w K mg base 2 "first_gap" (spP K g_first_gap)) : CalX P w K mg base 3 "narrowed" (spG K Cw g_gap) := by
  have S := sc_narrowed
  refine def_gap D S (fun ds ⟨_, _, h, _⟩ => by rw [h]; rfl) fun f cdv A outer s H B E ds W hr h tk hW => ?_
  obtain ⟨b, step, rfl, hb, hg⟩ := h
  refine xb_cons ?_
  refine xs_if ?_
  refine xt_notN ?_
  refine xe_call c_first_gap (hr.mono (by decide)) ?_
  refine xa_cons ?_
  refine xe_var 0 rfl ?_
  refine xa_nil ?_
  refine ⟨b, step, rfl, hb, fun z => absurd z hg, fun _ i j => ?_⟩
  refine ⟨fun _ => ?_, fun hk => (nomatch hk)⟩
  refine xb_one ?_
  refine xs_raise rfl G tk hW ?_
  exact xe_var 0 rfl trivial
def g_gap_sure (ds : List PyData) : Prop := ∃ (fm : Farm) (b : List Pr) (step stops : Int), ds = [dF fm, dB b step, .int stops] ∧ BoundsOk b step ∧ ¬ NoGap b step
theorem ok_sure_gap {Cw : Addr} (D : Def K mg "sure_outputs" s_sure_outputs ["farm", "bounds", "stops"]) (T : Bi mg) (c_narrowed : CalX P w K mg base 3 "narrowed" (spG K Cw g_gap)) : CalX P w K mg base 4 "sure_outputs" (spG K Cw g_gap_sure) := by
  have S := sc_sure_outputs
  refine def_gap D S (fun ds ⟨_, _, _, _, h, _⟩ => by rw [h]; rfl) fun f cdv A outer s H B E ds W hr h tk hW => ?_
  obtain ⟨fm, b, step, stops, rfl, hb, hg⟩ := h
  refine xb_one ?_
  refine xs_ret ?_
  refine xe_m ?_
  refine xm_lc [("low", 3), ("high", 4)] rfl S.nd (blkOk_by rfl) (fun _ h => nomatch h) (lc_pure ?_)
  refine xi_seq ?_
  refine xe_callX c_narrowed (hr.mono (by decide)) tk hW ?_
  refine xa_cons ?_
  refine xe_var 1 rfl ?_
  refine xa_nil ?_
  exact ⟨b, step, rfl, hb, hg⟩
def g_law_told_or_none (ds : List PyData) (Φ : PyData → Prop) : Prop := ∃ (sure : Bool) (fm : Farm) (b : List Pr) (step stops : Int), ds = [.str (if sure then "sure" else "narrowed"), dF fm, dB b step, .int stops] ∧ FarmOk fm ∧ fm.ms.length ≤ 10 ∧ BoundsOk b step ∧ 0 ≤ stops ∧
  (NoGap b step → ∀ p ∈ narrowedF b step, 0 ≤ p.1 ∧ p.1 ≤ p.2 ∧ p.2 ≤ 100) ∧
  (NoGap b step → Φ (if sure then .list (dI ((narrowedF b step).map fun p => worstF fm p.1 p.2 stops)) else .tuple ((narrowedF b step).map dP))) ∧ (¬ NoGap b step → Φ .none)
theorem ok_told {Cw : Addr} (D : Def K mg "_law_told_or_none" s_law_told_or_none ["word", "farm", "bounds", "stops"]) (T : Bi mg) (G : OwnEx K mg "NoWeather" Cw)
    (c_narrowed : Cal P w K mg base 3 "narrowed" (spP K g_narrowed)) (c_sure_outputs : Cal P w K mg base 6 "sure_outputs" (spP K g_sure_outputs)) (x_narrowed : CalX P w K mg base 3 "narrowed" (spG K Cw g_gap)) (x_sure_outputs : CalX P w K mg base 4 "sure_outputs" (spG K Cw g_gap_sure)) :
    Cal P w K mg base 7 "_law_told_or_none" (spP K g_law_told_or_none) := by
  have S := sc_law_told_or_none
  refine def_pure D S (fun ds Φ ⟨_, _, _, _, _, h, _⟩ => by rw [h]; rfl) fun f cdv A outer s H B E ds Φ hr h => ?_
  obtain ⟨sure, fm, b, step, stops, rfl, hf, hn, hb, hs, hw, hq, hq2⟩ := h
  refine xb_one ?_
  by_cases hg : NoGap b step
  · refine xs_tryNo ?_
    have hq := hq hg
    refine xb_one ?_
    refine xs_ret ?_
    refine xe_if ?_
    refine xt_eqS ?_
    refine xe_var 0 rfl ?_
    refine xe_str ?_
    refine ⟨_, _, rfl, rfl, ?_⟩
    refine ⟨fun hc => ?_, fun hc => ?_⟩
    · have hs : sure = false := by
        cases sure with
        | false => rfl
        | true => exact absurd (of_decide_eq_true hc) (by decide)
      subst hs
      refine xe_call c_narrowed (hr.mono (by decide)) ?_
      refine xa_cons ?_
      refine xe_var 2 rfl ?_
      refine xa_nil ?_
      exact ⟨b, step, rfl, hb, hg, hq⟩
    · have hs' : sure = true := by
        cases sure with
        | true => rfl
        | false => exact absurd rfl (of_decide_eq_false hc)
      subst hs'
      refine xe_call c_sure_outputs (hr.mono (by decide)) ?_
      refine xa_cons ?_
      refine xe_var 1 rfl ?_
      refine xa_cons ?_
      refine xe_var 2 rfl ?_
      refine xa_cons ?_
      refine xe_var 3 rfl ?_
      refine xa_nil ?_
      exact ⟨fm, b, step, stops, rfl, hf, hn, hb, hg, hs, hw hg, hq⟩
  · have hq2 := hq2 hg
    refine xs_try G rfl rfl rfl (fun B2 pn xe W tk hW => ?_) fun a pn Γ' => ?_
    · refine xb_one ?_
      refine xs_ret ?_
      refine xe_if ?_
      refine xt_eqS ?_
      refine xe_var 0 rfl ?_
      refine xe_str ?_
      refine ⟨_, _, rfl, rfl, ?_⟩
      refine ⟨fun hc => ?_, fun hc => ?_⟩
      · refine xe_callX x_narrowed (hr.mono (by decide)) tk hW ?_
        refine xa_cons ?_
        refine xe_var 2 rfl ?_
        refine xa_nil ?_
        exact ⟨b, step, rfl, hb, hg⟩
      · refine xe_callX x_sure_outputs (hr.mono (by decide)) tk hW ?_
        refine xa_cons ?_
        refine xe_var 1 rfl ?_
        refine xa_cons ?_
        refine xe_var 2 rfl ?_
        refine xa_cons ?_
        refine xe_var 3 rfl ?_
        refine xa_nil ?_
        exact ⟨fm, b, step, stops, rfl, hb, hg⟩
    · refine xb_one ?_
      refine xs_ret ?_
      exact xe_none hq2
end W99
end

section
/-! Farms renamed, in plain Lean. -/
namespace W99
open PySem
/-! ### places and names -/
section
variable {n : Nat} {nm : List Int}
theorem at_nat (h : nm.Perm (rgI n)) {k : Int} (h0 : 0 ≤ k) (h1 : k < n) : ∃ hk : k.toNat < nm.length, atF nm k = nm[k.toNat] := by
  have hl := perm_len h
  have hk : k.toNat < nm.length := by omega
  exact ⟨hk, by simp [atF, List.getD_eq_getElem?_getD, hk]⟩
theorem perm_idxI (h : nm.Perm (rgI n)) {j : Int} (h0 : 0 ≤ j) (h1 : j < n) : ∃ hl : nm.idxOf j < nm.length, nm[nm.idxOf j] = j := by
  have hm : j ∈ nm := h.mem_iff.mpr (rg_mem.mpr ⟨h0, h1⟩)
  exact ⟨List.idxOf_lt_length_iff.mpr hm, List.getElem_idxOf _⟩
theorem at_lo (h : nm.Perm (rgI n)) {k : Int} (h0 : 0 ≤ k) (h1 : k < n) : 0 ≤ atF nm k ∧ atF nm k < n := by
  obtain ⟨hk, e⟩ := at_nat h h0 h1
  obtain ⟨_, a, b⟩ := perm_at h (i := k.toNat) (by omega)
  rw [e]
  exact ⟨a, b⟩
theorem at_inj (h : nm.Perm (rgI n)) {k l : Int} (h0 : 0 ≤ k) (h1 : k < n) (l0 : 0 ≤ l) (l1 : l < n) (e : atF nm k = atF nm l) : k = l := by
  obtain ⟨hk, ek⟩ := at_nat h h0 h1
  obtain ⟨hl, el⟩ := at_nat h l0 l1
  rw [ek, el] at e
  have := perm_inj h hk hl e
  omega
theorem at_iff (h : nm.Perm (rgI n)) {k l : Int} (h0 : 0 ≤ k) (h1 : k < n) (l0 : 0 ≤ l) (l1 : l < n) : atF nm k = atF nm l ↔ k = l := ⟨at_inj h h0 h1 l0 l1, fun e => by rw [e]⟩
theorem at_idx (h : nm.Perm (rgI n)) {k : Int} (h0 : 0 ≤ k) (h1 : k < n) : nm.idxOf (atF nm k) = k.toNat := by
  obtain ⟨hk, e⟩ := at_nat h h0 h1
  obtain ⟨a, b⟩ := at_lo h h0 h1
  obtain ⟨hl, e2⟩ := perm_idxI h a b
  refine perm_inj h hl hk ?_
  rw [e2, e]
theorem at_onto (h : nm.Perm (rgI n)) {j : Int} (h0 : 0 ≤ j) (h1 : j < n) : ∃ k : Int, 0 ≤ k ∧ k < n ∧ atF nm k = j := by
  obtain ⟨hl, e⟩ := perm_idxI h h0 h1
  refine ⟨(nm.idxOf j : Nat), by omega, ?_, ?_⟩
  · have := perm_len h
    omega
  · rw [atF_at hl, e]
theorem perm_eq (h : nm.Perm (rgI n)) : nm = (rgI n).map (atF nm) := by
  refine List.ext_getElem (by rw [List.length_map, rg_len, perm_len h]) fun i h1 h2 => ?_
  rw [List.getElem_map]
  have : (rgI n)[i]'(by rw [rg_len, ← perm_len h]; exact h1) = (i : Int) := by simp [rgI]
  rw [this, atF_at h1]
end
theorem sum_perm {l m : List Int} (h : l.Perm m) : l.sum = m.sum := by
  induction h with
  | nil => rfl
  | cons x _ ih => rw [List.sum_cons, List.sum_cons, ih]
  | swap x y l => rw [List.sum_cons, List.sum_cons, List.sum_cons, List.sum_cons]; omega
  | trans _ _ ih1 ih2 => rw [ih1, ih2]
theorem foldmax_perm {l m : List Int} (h : l.Perm m) : ∀ a : Int, l.foldl max a = m.foldl max a := by
  induction h with
  | nil => intro a; rfl
  | cons x _ ih => intro a; exact ih _
  | swap x y l =>
    intro a
    show l.foldl max (max (max a y) x) = l.foldl max (max (max a x) y)
    congr 1
    omega
  | trans _ _ ih1 ih2 => intro a; rw [ih1, ih2]
/-! ### renaming -/
/-- a farm and a case, and the same under other names -/
structure Ren (f : Farm) (nm kd sd : List Int) (ws : List Wk) (c c' : Case) : Prop where
  g : FarmGen f
  hn : nm.Perm (rgI f.ms.length)
  hk : kd.Perm (rgI f.cs.length)
  hs : sd.Perm (rgI 4)
  hw : ws.Perm (renW f nm sd)
  ew : c'.wind = c.wind
  d0 : 0 ≤ c.dir
  d1 : c.dir < 4
  ed : c'.dir = atF sd c.dir
  off : ∀ i : Int, 0 ≤ i → i < f.ms.length → (atF nm i ∈ c'.off ↔ i ∈ c.off)
abbrev renF (f : Farm) (nm kd : List Int) (ws : List Wk) : Farm := ⟨renC f kd, renM f nm kd, ws⟩
section
variable {f : Farm} {nm kd sd : List Int} {ws : List Wk} {c c' : Case}
theorem Ren.parts (R : Ren f nm kd sd ws c c') {m : Int} (h0 : 0 ≤ m) (h1 : m < f.ms.length) : (partsF (renF f nm kd ws) c' (atF nm m)).Perm (partsF f c m) := by
  unfold partsF
  refine ((R.hw.filter _).map _).trans ?_
  unfold renW
  rw [List.filter_map, List.map_map]
  have e : f.ws.filter (hitW c' (atF nm m) ∘ fun w => (atF sd w.1, atF nm w.2.1, atF nm w.2.2.1, w.2.2.2)) = f.ws.filter (hitW c m) := by
    refine List.filter_congr fun w hw => ?_
    obtain ⟨⟨a1, a2⟩, ⟨b1, b2⟩, c1, c2⟩ := R.g.w w hw
    show hitW c' (atF nm m) (atF sd w.1, atF nm w.2.1, atF nm w.2.2.1, w.2.2.2) = hitW c m w
    unfold hitW
    have q1 : decide (atF sd w.1 = c'.dir) = decide (w.1 = c.dir) := by
      rw [R.ed]
      exact decide_eq_decide.mpr (at_iff R.hs a1 (by exact a2) R.d0 (by exact R.d1))
    have q2 : decide (atF nm w.2.2.1 = atF nm m) = decide (w.2.2.1 = m) := decide_eq_decide.mpr (at_iff R.hn c1 c2 h0 h1)
    have q3 : decide (atF nm w.2.1 ∈ c'.off) = decide (w.2.1 ∈ c.off) := decide_eq_decide.mpr (R.off _ b1 b2)
    rw [q1, q2, q3]
  rw [e]
  exact List.Perm.refl _
theorem Ren.taken (R : Ren f nm kd sd ws c c') {m : Int} (h0 : 0 ≤ m) (h1 : m < f.ms.length) : takenF (renF f nm kd ws) c' (atF nm m) = takenF f c m := foldmax_perm (R.parts h0 h1) 0
theorem Ren.wind (R : Ren f nm kd sd ws c c') {m : Nat} (h1 : m < f.ms.length) : windF (renF f nm kd ws) c' (atF nm (m : Int)).toNat = windF f c m := by
  unfold windF
  obtain ⟨a, b⟩ := at_lo R.hn (k := (m : Int)) (by omega) (by omega)
  rw [R.ew, show (((atF nm (m : Int)).toNat : Nat) : Int) = atF nm (m : Int) by omega, R.taken (by omega) (by omega)]
theorem renM_at (g : FarmGen f) (hn : nm.Perm (rgI f.ms.length)) {m : Nat} (h1 : m < f.ms.length) : (renM f nm kd).getD (atF nm (m : Int)).toNat 0 = atF kd (f.ms.getD m 0) := by
  obtain ⟨a, b⟩ := at_lo hn (k := (m : Int)) (by omega) (by omega)
  unfold renM
  rw [List.getD_eq_getElem?_getD, List.getElem?_map, List.getElem?_range (by omega)]
  show atF kd (f.ms.getD (nm.idxOf (((atF nm (m : Int)).toNat : Nat) : Int)) 0) = _
  rw [show (((atF nm (m : Int)).toNat : Nat) : Int) = atF nm (m : Int) by omega, at_idx hn (by omega) (by omega), Int.toNat_natCast]
theorem renC_at (hk : kd.Perm (rgI f.cs.length)) {q : Int} (h0 : 0 ≤ q) (h1 : q < f.cs.length) : (renC f kd).getD (atF kd q).toNat [] = f.cs.getD q.toNat [] := by
  obtain ⟨a, b⟩ := at_lo hk h0 h1
  unfold renC
  rw [List.getD_eq_getElem?_getD, List.getElem?_map, List.getElem?_range (by omega)]
  show f.cs.getD (kd.idxOf (((atF kd q).toNat : Nat) : Int)) [] = _
  rw [show (((atF kd q).toNat : Nat) : Int) = atF kd q by omega, at_idx hk h0 h1]
theorem ms_at (g : FarmGen f) {m : Nat} (h1 : m < f.ms.length) : 0 ≤ f.ms.getD m 0 ∧ f.ms.getD m 0 < f.cs.length := by
  have e0 : f.ms.getD m 0 = f.ms[m] := by simp [List.getD_eq_getElem?_getD, h1]
  rw [e0]
  exact g.ok.ms _ (List.getElem_mem h1)
theorem Ren.out (R : Ren f nm kd sd ws c c') {m : Nat} (h1 : m < f.ms.length) : outAt (renF f nm kd ws) c' (atF nm (m : Int)).toNat = outAt f c m := by
  unfold outAt
  obtain ⟨a, b⟩ := at_lo R.hn (k := (m : Int)) (by omega) (by omega)
  have e1 : (((atF nm (m : Int)).toNat : Nat) : Int) = atF nm (m : Int) := by omega
  obtain ⟨q0, q1⟩ := ms_at R.g h1
  have e2 : (renC f kd).getD ((renM f nm kd).getD (atF nm (m : Int)).toNat 0).toNat [] = f.cs.getD (f.ms.getD m 0).toNat [] := by rw [renM_at R.g R.hn h1, renC_at R.hk q0 q1]
  rw [R.wind h1, e1]
  show (if atF nm (m : Int) ∈ c'.off then 0 else powerF ((renC f kd).getD ((renM f nm kd).getD (atF nm (m : Int)).toNat 0).toNat []) (windF f c m)) = _
  rw [e2]
  by_cases h : (m : Int) ∈ c.off
  · rw [if_pos h, if_pos ((R.off m (by omega) (by omega)).mpr h)]
  · rw [if_neg h, if_neg (fun z => h ((R.off m (by omega) (by omega)).mp z))]
theorem renM_len (nm kd : List Int) : (renM f nm kd).length = f.ms.length := by simp [renM]
theorem renC_len (kd : List Int) : (renC f kd).length = f.cs.length := by simp [renC]
theorem getD_rg (g : Nat → Int) {n : Nat} (k : Nat) (h : k < n) : ((List.range n).map g).getD k 0 = g k := by
  rw [List.getD_eq_getElem?_getD, List.getElem?_map, List.getElem?_range h]
  rfl
/-- what stands at the new place -/
theorem Ren.outs_at (R : Ren f nm kd sd ws c c') {m : Nat} (h1 : m < f.ms.length) : atF (outsF (renF f nm kd ws) c') (atF nm (m : Int)) = (outsF f c).getD m 0 := by
  obtain ⟨a, b⟩ := at_lo R.hn (k := (m : Int)) (by omega) (by omega)
  show (outsF (renF f nm kd ws) c').getD (atF nm (m : Int)).toNat 0 = _
  unfold outsF
  rw [getD_rg _ _ (by rw [show (renF f nm kd ws).ms.length = f.ms.length from renM_len nm kd]; omega), getD_rg _ _ h1]
  exact R.out h1
theorem Ren.winds_at (R : Ren f nm kd sd ws c c') {m : Nat} (h1 : m < f.ms.length) : atF (windsF (renF f nm kd ws) c') (atF nm (m : Int)) = (windsF f c).getD m 0 := by
  obtain ⟨a, b⟩ := at_lo R.hn (k := (m : Int)) (by omega) (by omega)
  show (windsF (renF f nm kd ws) c').getD (atF nm (m : Int)).toNat 0 = _
  unfold windsF
  rw [getD_rg _ _ (by rw [show (renF f nm kd ws).ms.length = f.ms.length from renM_len nm kd]; omega), getD_rg _ _ h1]
  exact R.wind h1
theorem range_sum (g : Nat → Int) (n : Nat) : ((List.range n).map g).sum = ((rgI n).map fun k => g k.toNat).sum := by
  unfold rgI
  rw [List.map_map]
  rfl
theorem Ren.outF (R : Ren f nm kd sd ws c c') : outF (renF f nm kd ws) c' = outF f c := by
  unfold W99.outF outsF
  rw [show (renF f nm kd ws).ms.length = f.ms.length from renM_len nm kd, range_sum, range_sum]
  rw [← sum_perm ((R.hn).map fun k => outAt (renF f nm kd ws) c' k.toNat)]
  rw [perm_eq R.hn, List.map_map]
  have hpe := perm_eq R.hn
  congr 1
  refine List.map_congr_left fun k hk => ?_
  obtain ⟨h0, h1⟩ := rg_mem.mp hk
  show outAt (renF f ((rgI f.ms.length).map (atF nm)) kd ws) c' (atF nm k).toNat = outAt f c k.toNat
  rw [← hpe]
  have := R.out (m := k.toNat) (by omega)
  rw [show ((k.toNat : Nat) : Int) = k by omega] at this
  exact this
/-! ### the new farm is a farm -/
theorem ren_ok (g : FarmGen f) (hn : nm.Perm (rgI f.ms.length)) (hk : kd.Perm (rgI f.cs.length)) (hs : sd.Perm (rgI 4)) (hw : ws.Perm (renW f nm sd)) : FarmGen (renF f nm kd ws) := by
  have hwm : ∀ w ∈ ws, ∃ v ∈ f.ws, w = (atF sd v.1, atF nm v.2.1, atF nm v.2.2.1, v.2.2.2) := fun w h => by
    obtain ⟨v, hv, e⟩ := List.mem_map.mp (hw.mem_iff.mp h)
    exact ⟨v, hv, e.symm⟩
  refine ⟨⟨fun c hc => ?_, fun k hkm => ?_, fun w h => ?_, ?_, ?_⟩, ?_, ?_, ?_, ?_, fun w h => ?_⟩
  · obtain ⟨j, hj, rfl⟩ := List.mem_map.mp hc
    have hj := List.mem_range.mp hj
    obtain ⟨hl, e⟩ := perm_idx hk hj
    rw [perm_len hk] at hl
    rw [List.getD_eq_getElem?_getD, List.getElem?_eq_getElem hl]
    exact g.ok.cv _ (List.getElem_mem hl)
  · obtain ⟨j, hj, rfl⟩ := List.mem_map.mp hkm
    have hj := List.mem_range.mp hj
    obtain ⟨hl, e⟩ := perm_idx hn hj
    rw [perm_len hn] at hl
    obtain ⟨a, b⟩ := ms_at g hl
    have := at_lo hk a b
    show 0 ≤ _ ∧ _ < (((renC f kd).length : Nat) : Int)
    rw [renC_len]
    exact this
  · obtain ⟨v, hv, rfl⟩ := hwm w h
    exact g.ok.ws v hv
  · show (renM f nm kd).length ≤ 1000
    rw [renM_len]; exact g.ok.lm
  · show ws.length ≤ 1000
    rw [hw.length_eq, renW, List.length_map]; exact g.ok.lw
  · show 1 ≤ (renC f kd).length
    rw [renC_len]; exact g.c1
  · show (renC f kd).length ≤ 3
    rw [renC_len]; exact g.c2
  · show 1 ≤ (renM f nm kd).length
    rw [renM_len]; exact g.m1
  · show (renM f nm kd).length ≤ 4
    rw [renM_len]; exact g.m2
  · obtain ⟨v, hv, rfl⟩ := hwm w h
    obtain ⟨⟨a1, a2⟩, ⟨b1, b2⟩, c1, c2⟩ := g.w v hv
    show (0 ≤ atF sd v.1 ∧ atF sd v.1 < 4) ∧ (0 ≤ atF nm v.2.1 ∧ atF nm v.2.1 < (((renM f nm kd).length : Nat) : Int)) ∧ (0 ≤ atF nm v.2.2.1 ∧ atF nm v.2.2.1 < (((renM f nm kd).length : Nat) : Int))
    rw [renM_len]
    exact ⟨at_lo hs a1 (by exact a2), at_lo hn b1 b2, at_lo hn c1 c2⟩
/-! ### what is lost to each cause -/
theorem Ren.part (R : Ren f nm kd sd ws c c') (os : List Str) : Ren (partF f os) nm kd sd (if ("wake" : Str) ∈ os then ws else []) (caseF c os) (caseF c' os) where
  g := by
    obtain ⟨ok, c1, c2, m1, m2, w⟩ := R.g
    refine ⟨partF_ok ok os, c1, c2, m1, m2, fun x hx => w x ?_⟩
    unfold partF at hx
    by_cases z : ("wake" : Str) ∈ os
    · simpa [z] using hx
    · simp [z] at hx
  hn := R.hn
  hk := R.hk
  hs := R.hs
  hw := by
    by_cases z : ("wake" : Str) ∈ os
    · have := R.hw
      unfold renW partF at *
      simpa [z] using this
    · unfold renW partF
      simp [z]
  ew := R.ew
  d0 := R.d0
  d1 := R.d1
  ed := R.ed
  off := fun i h0 h1 => by
    by_cases z : ("stop" : Str) ∈ os
    · have := R.off i h0 h1
      unfold caseF
      simpa [z] using this
    · unfold caseF
      simp [z]
theorem Ren.gives (R : Ren f nm kd sd ws c c') (cap : Int) (os : List Str) : givesF (renF f nm kd ws) c' cap os = givesF f c cap os := by
  have e : W99.outF (partF (renF f nm kd ws) os) (caseF c' os) = W99.outF (partF f os) (caseF c os) := (R.part os).outF
  unfold givesF
  rw [e]
theorem Ren.fair (R : Ren f nm kd sd ws c c') (cap : Int) : fairF (givesF (renF f nm kd ws) c' cap) = fairF (givesF f c cap) := by
  rw [show givesF (renF f nm kd ws) c' cap = givesF f c cap from funext fun os => R.gives cap os]
end
end W99
end

section
/-! Least and greatest outputs under other names. -/
namespace W99
open PySem
theorem sub_one {b : List Int} {x : Int} (h : b.Sublist [x]) : b = [] ∨ b = [x] := by
  cases h with
  | cons _ h => left; exact List.sublist_nil.mp h
  | cons_cons _ h => right; rw [List.sublist_nil.mp h]
theorem subsF_mem {ns r : List Int} : r ∈ subsF ns ↔ r.Sublist ns := by
  refine subsF_ind (Pr := fun ns => ∀ r, r ∈ subsF ns ↔ r.Sublist ns) ?_ (fun ns x ih r => ?_) ns r
  · intro r
    constructor
    · intro h
      rcases List.mem_singleton.mp h with rfl
      exact List.Sublist.refl _
    · intro h
      rw [List.sublist_nil.mp h]
      exact List.mem_singleton.mpr rfl
  · rw [subsF_snoc, List.mem_append, List.sublist_append_iff, ih]
    constructor
    · rintro (h | h)
      · exact ⟨r, [], by simp, h, List.nil_sublist _⟩
      · obtain ⟨q, hq, rfl⟩ := List.mem_map.mp h
        exact ⟨q, [x], rfl, (ih q).mp hq, List.Sublist.refl _⟩
    · rintro ⟨a, b, rfl, ha, hb⟩
      rcases sub_one hb with rfl | rfl
      · left; simpa using ha
      · right; exact List.mem_map.mpr ⟨a, (ih a).mpr ha, rfl⟩
theorem rowsF_mem {n : Nat} {stops : Int} {r : List Int} : r ∈ rowsF n stops ↔ r.Sublist (rgI n) ∧ (r.length : Int) ≤ stops := by
  unfold rowsF
  rw [List.mem_filter, decide_eq_true_eq]
  exact and_congr subsF_mem Iff.rfl
/-- a farm under other names, no case yet -/
structure RenB (f : Farm) (nm kd sd : List Int) (ws : List Wk) : Prop where
  g : FarmGen f
  hn : nm.Perm (rgI f.ms.length)
  hk : kd.Perm (rgI f.cs.length)
  hs : sd.Perm (rgI 4)
  hw : ws.Perm (renW f nm sd)
section
variable {f : Farm} {nm kd sd : List Int} {ws : List Wk}
theorem sub_rg {n : Nat} {r : List Int} (h : r.Sublist (rgI n)) {k : Int} (hk : k ∈ r) : 0 ≤ k ∧ k < n := rg_mem.mp (h.subset hk)
theorem map_nodup {n : Nat} {nm : List Int} (h : nm.Perm (rgI n)) {r : List Int} (hr : r.Sublist (rgI n)) : (r.map (atF nm)).Nodup := by
  have h1 : r.Nodup := hr.nodup (rg_nodup n)
  refine List.pairwise_map.mpr (List.Pairwise.imp_of_mem (fun {a b} ha hb hab e => hab ?_) h1)
  obtain ⟨a0, a1⟩ := sub_rg hr ha
  obtain ⟨b0, b1⟩ := sub_rg hr hb
  exact at_inj h a0 a1 b0 b1 e
theorem RenB.fwd (R : RenB f nm kd sd ws) {low high stops : Int} {c : Case} (hc : c ∈ casesF low high (rowsF f.ms.length stops)) : ∃ c', c' ∈ casesF low high (rowsF f.ms.length stops) ∧ Ren f nm kd sd ws c c' := by
  obtain ⟨hw, ⟨d0, d1⟩, ho⟩ := mem_casesF.mp hc
  obtain ⟨hsub, hlen⟩ := rowsF_mem.mp ho
  have hd := at_lo R.hs d0 (by exact d1)
  have hperm : ((rgI f.ms.length).filter fun j => decide (j ∈ c.off.map (atF nm))).Perm (c.off.map (atF nm)) := by
    refine (List.perm_ext_iff_of_nodup ((List.filter_sublist).nodup (rg_nodup _)) (map_nodup R.hn hsub)).mpr fun j => ?_
    rw [List.mem_filter, decide_eq_true_eq]
    refine ⟨fun h => h.2, fun h => ⟨?_, h⟩⟩
    obtain ⟨k, hk, rfl⟩ := List.mem_map.mp h
    obtain ⟨k0, k1⟩ := sub_rg hsub hk
    exact rg_mem.mpr (at_lo R.hn k0 k1)
  refine ⟨⟨c.wind, atF sd c.dir, (rgI f.ms.length).filter fun j => decide (j ∈ c.off.map (atF nm))⟩, mem_casesF.mpr ⟨hw, ⟨hd.1, by exact hd.2⟩, rowsF_mem.mpr ⟨List.filter_sublist, ?_⟩⟩, ⟨R.g, R.hn, R.hk, R.hs, R.hw, rfl, d0, d1, rfl, fun i i0 i1 => ?_⟩⟩
  · have := hperm.length_eq
    rw [List.length_map] at this
    show (((rgI f.ms.length).filter fun j => decide (j ∈ c.off.map (atF nm))).length : Int) ≤ stops
    omega
  · show atF nm i ∈ (rgI f.ms.length).filter _ ↔ _
    rw [hperm.mem_iff, List.mem_map]
    constructor
    · rintro ⟨k, hk, e⟩
      obtain ⟨k0, k1⟩ := sub_rg hsub hk
      rw [← at_inj R.hn k0 k1 i0 i1 e]
      exact hk
    · intro h
      exact ⟨i, h, rfl⟩
theorem RenB.bwd (R : RenB f nm kd sd ws) {low high stops : Int} {c' : Case} (hc : c' ∈ casesF low high (rowsF f.ms.length stops)) : ∃ c, c ∈ casesF low high (rowsF f.ms.length stops) ∧ Ren f nm kd sd ws c c' := by
  obtain ⟨hw, ⟨d0, d1⟩, ho⟩ := mem_casesF.mp hc
  obtain ⟨hsub, hlen⟩ := rowsF_mem.mp ho
  obtain ⟨d, e0, e1, ed⟩ := at_onto R.hs d0 (by exact d1)
  have hfs : ((rgI f.ms.length).filter fun i => decide (atF nm i ∈ c'.off)).Sublist (rgI f.ms.length) := List.filter_sublist
  have hperm : (((rgI f.ms.length).filter fun i => decide (atF nm i ∈ c'.off)).map (atF nm)).Perm c'.off := by
    refine (List.perm_ext_iff_of_nodup (map_nodup R.hn hfs) (hsub.nodup (rg_nodup _))).mpr fun j => ?_
    rw [List.mem_map]
    constructor
    · rintro ⟨i, hi, rfl⟩
      exact of_decide_eq_true (List.mem_filter.mp hi).2
    · intro h
      obtain ⟨j0, j1⟩ := sub_rg hsub h
      obtain ⟨i, i0, i1, e⟩ := at_onto R.hn j0 j1
      exact ⟨i, List.mem_filter.mpr ⟨rg_mem.mpr ⟨i0, i1⟩, by rw [e]; exact decide_eq_true h⟩, e⟩
  refine ⟨⟨c'.wind, d, (rgI f.ms.length).filter fun i => decide (atF nm i ∈ c'.off)⟩, mem_casesF.mpr ⟨hw, ⟨e0, by exact e1⟩, rowsF_mem.mpr ⟨hfs, ?_⟩⟩, ⟨R.g, R.hn, R.hk, R.hs, R.hw, rfl, e0, by exact e1, ed.symm, fun i i0 i1 => ?_⟩⟩
  · have := hperm.length_eq
    rw [List.length_map] at this
    show (((rgI f.ms.length).filter fun i => decide (atF nm i ∈ c'.off)).length : Int) ≤ stops
    omega
  · show _ ↔ i ∈ (rgI f.ms.length).filter _
    rw [List.mem_filter, decide_eq_true_eq]
    exact ⟨fun h => ⟨rg_mem.mpr ⟨i0, i1⟩, h⟩, fun h => h.2⟩
theorem RenB.vals (R : RenB f nm kd sd ws) (low high stops : Int) (x : Int) : x ∈ valsF (renF f nm kd ws) low high stops (rowsF f.ms.length stops) ↔ x ∈ valsF f low high stops (rowsF f.ms.length stops) := by
  unfold valsF
  rw [List.mem_map, List.mem_map]
  constructor
  · rintro ⟨c', hc, rfl⟩
    obtain ⟨c, h1, h2⟩ := R.bwd hc
    exact ⟨c, h1, h2.outF.symm⟩
  · rintro ⟨c, hc, rfl⟩
    obtain ⟨c', h1, h2⟩ := R.fwd hc
    exact ⟨c', h1, h2.outF⟩
theorem RenB.worst (R : RenB f nm kd sd ws) (low high stops : Int) : worstF (renF f nm kd ws) low high stops = worstF f low high stops := by
  unfold worstF
  rw [show (renF f nm kd ws).ms.length = f.ms.length from renM_len nm kd]
  exact leastF_ext (fun x h => (R.vals low high stops x).mp h) fun x h => (R.vals low high stops x).mpr h
theorem RenB.best (R : RenB f nm kd sd ws) (low high stops : Int) : bestF (renF f nm kd ws) low high stops = bestF f low high stops := by
  unfold bestF
  rw [show (renF f nm kd ws).ms.length = f.ms.length from renM_len nm kd]
  congr 1
  refine leastF_ext (fun x h => ?_) fun x h => ?_
  · obtain ⟨y, hy, rfl⟩ := List.mem_map.mp h
    exact List.mem_map.mpr ⟨y, (R.vals low high stops y).mp hy, rfl⟩
  · obtain ⟨y, hy, rfl⟩ := List.mem_map.mp h
    exact List.mem_map.mpr ⟨y, (R.vals low high stops y).mpr hy, rfl⟩
end
end W99
end

section
/-! Bounds told backwards and mirrored. -/
namespace W99
open PySem
def mir (p : Pr) : Pr := (40 - p.2, 40 - p.1)
theorem hrs_get {b : List Pr} {i : Nat} (h : i < b.length) : hrs b i = b[i] := by simp [hrs, List.getD_eq_getElem?_getD, h]
theorem hrs_rev {b : List Pr} {i : Nat} (h : i < b.length) : hrs b.reverse i = hrs b (b.length - 1 - i) := by
  rw [hrs_get (by simpa using h), hrs_get (by omega), List.getElem_reverse]
theorem hrs_mir {b : List Pr} {i : Nat} (h : i < b.length) : hrs (b.map mir) i = mir (hrs b i) := by
  rw [hrs_get (by simpa using h), hrs_get h, List.getElem_map]
theorem gap_rev {b : List Pr} {step : Int} {i j : Nat} (hij : i < j) (hj : j < b.length) : gapF b.reverse step i j = gapF b step (b.length - 1 - j) (b.length - 1 - i) := by
  unfold gapF
  rw [hrs_rev (by omega), hrs_rev hj]
  have e : (((b.length - 1 - i : Nat) : Int) - ((b.length - 1 - j : Nat) : Int)) = (j : Int) - i := by omega
  rw [e, Bool.or_comm]
theorem nogap_rev {b : List Pr} {step : Int} : NoGap b.reverse step ↔ NoGap b step := by
  have key : ∀ c : List Pr, NoGap c step → NoGap c.reverse step := fun c h i j hij hj => by
    rw [List.length_reverse] at hj
    rw [gap_rev hij hj]
    exact h _ _ (by omega) (by omega)
  exact ⟨fun h => by simpa using key _ h, key b⟩
theorem gap_mir {b : List Pr} {step : Int} {i j : Nat} (hi : i < b.length) (hj : j < b.length) : gapF (b.map mir) step i j = gapF b step i j := by
  unfold gapF
  rw [hrs_mir hi, hrs_mir hj, Bool.or_comm]
  unfold mir
  have e1 : (40 - (hrs b j).2) - (40 - (hrs b i).1) = (hrs b i).1 - (hrs b j).2 := by omega
  have e2 : (40 - (hrs b i).2) - (40 - (hrs b j).1) = (hrs b j).1 - (hrs b i).2 := by omega
  rw [e1, e2]
theorem nogap_mir {b : List Pr} {step : Int} : NoGap (b.map mir) step ↔ NoGap b step := by
  constructor
  · intro h i j hij hj
    rw [← gap_mir (by omega) hj]
    exact h i j hij (by simpa using hj)
  · intro h i j hij hj
    rw [List.length_map] at hj
    rw [gap_mir (by omega) hj]
    exact h i j hij hj
theorem bounds_rev {b : List Pr} {step : Int} (h : BoundsOk b step) : BoundsOk b.reverse step := ⟨by rw [List.length_reverse]; exact h.pos, by rw [List.length_reverse]; exact h.len, fun p hp => h.lo p (List.mem_reverse.mp hp), h.st⟩
theorem bounds_mir {b : List Pr} {step : Int} (h : BoundsOk b step) : BoundsOk (b.map mir) step := ⟨by rw [List.length_map]; exact h.pos, by rw [List.length_map]; exact h.len, fun p hp => by
  obtain ⟨q, hq, rfl⟩ := List.mem_map.mp hp
  have := h.lo q hq
  show 0 ≤ 40 - q.2 ∧ 40 - q.2 ≤ 40 - q.1 ∧ 40 - q.1 ≤ 40
  omega, h.st⟩
/-! ### the sweep, place by place -/
theorem sw_mir (step : Int) (a p : Pr) : sw step (mir a) (mir p) = mir (sw step a p) := by
  unfold sw mir
  refine Prod.ext ?_ ?_
  · show max (40 - p.2) ((40 - a.2) - step) = 40 - min p.2 (a.2 + step)
    omega
  · show min (40 - p.1) ((40 - a.1) + step) = 40 - max p.1 (a.1 - step)
    omega
theorem sweptGo_mir (step : Int) : ∀ (l : List Pr) (a : Pr), sweptGo step (mir a) (l.map mir) = (sweptGo step a l).map mir
  | [], _ => rfl
  | p :: l, a => by
    rw [List.map_cons, sweptGo, sweptGo, List.map_cons, sw_mir, sweptGo_mir step l]
theorem sweptF_mir (step : Int) (l : List Pr) : sweptF step (l.map mir) = (sweptF step l).map mir := by
  cases l with
  | nil => rfl
  | cons a l => rw [List.map_cons, sweptF, sweptF, List.map_cons, sweptGo_mir]
theorem narrowed_mir (b : List Pr) (step : Int) : narrowedF (b.map mir) step = (narrowedF b step).map mir := by
  unfold narrowedF
  rw [sweptF_mir, ← List.map_reverse, sweptF_mir, List.map_reverse]
theorem go_at (step : Int) : ∀ (l : List Pr) (a : Pr) (k : Nat) (h : k < l.length), hrs (sweptGo step a l) k = sw step (hrs (a :: sweptGo step a l) k) (hrs l k)
  | [], _, _, h => absurd h (Nat.not_lt_zero _)
  | p :: l, a, 0, _ => rfl
  | p :: l, a, k + 1, h => by
    have := go_at step l (sw step a p) k (by simpa using h)
    rw [sweptGo]
    exact this
theorem swept_zero (step : Int) (b : List Pr) : hrs (sweptF step b) 0 = hrs b 0 := by
  cases b with
  | nil => rfl
  | cons a l => rfl
theorem swept_succ (step : Int) {b : List Pr} {k : Nat} (h : k + 1 < b.length) : hrs (sweptF step b) (k + 1) = sw step (hrs (sweptF step b) k) (hrs b (k + 1)) := by
  cases b with
  | nil => exact absurd h (Nat.not_lt_zero _)
  | cons a l => exact go_at step l a k (by simpa using h)
theorem swept_low (step : Int) {b : List Pr} : ∀ {k : Nat}, k < b.length → ∀ x : Int, (hrs (sweptF step b) k).1 ≤ x ↔ ∀ j : Nat, j ≤ k → (hrs b j).1 ≤ x + step * ((k : Int) - j)
  | 0, h, x => by
    rw [swept_zero]
    constructor
    · intro q j hj
      have : j = 0 := by omega
      subst this
      simpa using q
    · intro q
      simpa using q 0 (Nat.le_refl _)
  | k + 1, h, x => by
    rw [swept_succ step h]
    have ih := swept_low step (b := b) (k := k) (by omega) (x + step)
    constructor
    · intro q j hj
      have q1 : (hrs b (k + 1)).1 ≤ x := by
        have : max (hrs b (k + 1)).1 ((hrs (sweptF step b) k).1 - step) ≤ x := q
        omega
      have q2 : (hrs (sweptF step b) k).1 ≤ x + step := by
        have : max (hrs b (k + 1)).1 ((hrs (sweptF step b) k).1 - step) ≤ x := q
        omega
      rcases Nat.lt_or_ge j (k + 1) with hlt | hge
      · have := ih.mp q2 j (by omega)
        have e : x + step + step * ((k : Int) - j) = x + step * (((k + 1 : Nat) : Int) - j) := by
          have : (((k + 1 : Nat) : Int) - j) = 1 + ((k : Int) - j) := by omega
          rw [this, Int.mul_add, Int.mul_one, Int.add_assoc]
        rw [← e]
        exact this
      · have : j = k + 1 := by omega
        subst this
        rw [Int.sub_self, Int.mul_zero, Int.add_zero]
        exact q1
    · intro q
      have q1 := q (k + 1) (Nat.le_refl _)
      rw [Int.sub_self, Int.mul_zero, Int.add_zero] at q1
      have q2 := ih.mpr fun j hj => by
        have := q j (by omega)
        have e : x + step + step * ((k : Int) - j) = x + step * (((k + 1 : Nat) : Int) - j) := by
          have : (((k + 1 : Nat) : Int) - j) = 1 + ((k : Int) - j) := by omega
          rw [this, Int.mul_add, Int.mul_one, Int.add_assoc]
        rw [e]
        exact this
      show max (hrs b (k + 1)).1 ((hrs (sweptF step b) k).1 - step) ≤ x
      omega
theorem narrowed_at {b : List Pr} {step : Int} {k : Nat} (h : k < b.length) : hrs (narrowedF b step) k = hrs (sweptF step (sweptF step b).reverse) (b.length - 1 - k) := by
  unfold narrowedF
  rw [hrs_rev (by rw [sweptF_len, List.length_reverse, sweptF_len]; exact h), sweptF_len, List.length_reverse, sweptF_len]
def far (j k : Nat) : Int := (((j : Int) - k).natAbs : Int)
theorem mul_le {step a b : Int} (h : 0 ≤ step) (hab : a ≤ b) : step * a ≤ step * b := Int.mul_le_mul_of_nonneg_left hab h
/-- the lowest that is left -/
theorem narrow_low {b : List Pr} {step : Int} (hs : 0 ≤ step) {k : Nat} (h : k < b.length) (x : Int) : (hrs (narrowedF b step) k).1 ≤ x ↔ ∀ j : Nat, j < b.length → (hrs b j).1 ≤ x + step * far j k := by
  rw [narrowed_at h]
  have hl : (sweptF step b).reverse.length = b.length := by rw [List.length_reverse, sweptF_len]
  rw [swept_low step (by rw [hl]; omega)]
  have inner : ∀ i : Nat, i ≤ b.length - 1 - k → ((hrs (sweptF step b).reverse i).1 ≤ x + step * (((b.length - 1 - k : Nat) : Int) - i) ↔ ∀ j : Nat, j ≤ b.length - 1 - i → (hrs b j).1 ≤ x + step * (((b.length - 1 - k : Nat) : Int) - i) + step * (((b.length - 1 - i : Nat) : Int) - j)) := fun i hi => by
    rw [hrs_rev (by rw [sweptF_len]; omega), sweptF_len]
    exact swept_low step (by omega) _
  constructor
  · intro q j hj
    -- at the later of j and k
    have hi : b.length - 1 - max j k ≤ b.length - 1 - k := by omega
    have := (inner _ hi).mp (q _ hi) j (by omega)
    refine Int.le_trans this ?_
    rw [Int.add_assoc, ← Int.mul_add]
    have e : (((b.length - 1 - k : Nat) : Int) - ((b.length - 1 - max j k : Nat) : Int)) + (((b.length - 1 - (b.length - 1 - max j k) : Nat) : Int) - j) = far j k := by
      unfold far
      omega
    rw [e]
    exact Int.le_refl _
  · intro q i hi
    refine (inner i hi).mpr fun j hj => ?_
    refine Int.le_trans (q j (by omega)) ?_
    rw [Int.add_assoc, ← Int.mul_add]
    have := mul_le hs (show far j k ≤ (((b.length - 1 - k : Nat) : Int) - i) + (((b.length - 1 - i : Nat) : Int) - j) by unfold far; omega)
    omega
theorem le_iff_eq {a b : Int} (h : ∀ x : Int, a ≤ x ↔ b ≤ x) : a = b := Int.le_antisymm ((h b).mpr (Int.le_refl _)) ((h a).mp (Int.le_refl _))
theorem far_mir {n j k : Nat} (hj : j < n) (hk : k < n) : far (n - 1 - j) (n - 1 - k) = far j k := by
  unfold far
  omega
theorem narrow_low_rev {b : List Pr} {step : Int} (hs : 0 ≤ step) {k : Nat} (h : k < b.length) : (hrs (narrowedF b.reverse step) k).1 = (hrs (narrowedF b step) (b.length - 1 - k)).1 := by
  refine le_iff_eq fun x => ?_
  rw [narrow_low hs (by rw [List.length_reverse]; exact h), narrow_low hs (by omega), List.length_reverse]
  constructor
  · intro q j hj
    have := q (b.length - 1 - j) (by omega)
    rw [hrs_rev (by omega)] at this
    rw [show b.length - 1 - (b.length - 1 - j) = j by omega] at this
    rw [← far_mir (n := b.length) (by omega) (by omega), show b.length - 1 - (b.length - 1 - k) = k by omega]
    exact this
  · intro q j hj
    rw [hrs_rev hj]
    have := q (b.length - 1 - j) (by omega)
    rw [far_mir (by omega) h] at this
    exact this
theorem narrow_high {b : List Pr} {step : Int} {k : Nat} (h : k < b.length) : (hrs (narrowedF b step) k).2 = 40 - (hrs (narrowedF (b.map mir) step) k).1 := by
  rw [narrowed_mir, hrs_mir (by rw [narrowedF_len]; exact h)]
  show _ = 40 - (40 - _)
  omega
theorem narrowed_rev {b : List Pr} {step : Int} (hs : 0 ≤ step) : narrowedF b.reverse step = (narrowedF b step).reverse := by
  refine List.ext_getElem (by rw [narrowedF_len, List.length_reverse, List.length_reverse, narrowedF_len]) fun k h1 h2 => ?_
  have hk : k < b.length := by rw [narrowedF_len, List.length_reverse] at h1; exact h1
  rw [← hrs_get h1, ← hrs_get h2, hrs_rev (by rw [narrowedF_len]; exact hk), narrowedF_len]
  refine Prod.ext (narrow_low_rev hs hk) ?_
  rw [narrow_high (by rw [List.length_reverse]; exact hk), narrow_high (by omega), List.map_reverse]
  have := narrow_low_rev (b := b.map mir) hs (k := k) (by rw [List.length_map]; exact hk)
  rw [List.length_map] at this
  rw [this]
/-- what is left lies between the bounds' ends, the low not above the high -/
theorem narrow_ok {b : List Pr} {step : Int} (hb : BoundsOk b step) (hg : NoGap b step) : ∀ p ∈ narrowedF b step, 0 ≤ p.1 ∧ p.1 ≤ p.2 ∧ p.2 ≤ 100 := by
  intro p hp
  obtain ⟨k, hk, rfl⟩ := List.mem_iff_getElem.mp hp
  rw [← hrs_get hk]
  have hs := hb.st.1
  have hkb : k < b.length := by rw [narrowedF_len] at hk; exact hk
  have hf0 : far k k = 0 := by unfold far; omega
  have low : ∀ c : List Pr, BoundsOk c step → k < c.length → 0 ≤ (hrs (narrowedF c step) k).1 := fun c hc hkc => by
    have := (narrow_low hs hkc _).mp (Int.le_refl (hrs (narrowedF c step) k).1) k hkc
    rw [hf0, Int.mul_zero, Int.add_zero] at this
    have h2 := hc.lo _ (show hrs c k ∈ c by rw [hrs_get hkc]; exact List.getElem_mem hkc)
    omega
  have hm := low _ (bounds_mir hb) (by rw [List.length_map]; exact hkb)
  have hh := narrow_high (step := step) hkb
  refine ⟨low b hb hkb, ?_, by omega⟩
  rw [narrow_low hs hkb]
  intro j hj
  have key : (hrs (narrowedF (b.map mir) step) k).1 ≤ 40 - ((hrs b j).1 - step * far j k) := by
    rw [narrow_low hs (by rw [List.length_map]; exact hkb), List.length_map]
    intro i hi
    rw [hrs_mir hi]
    show 40 - (hrs b i).2 ≤ _
    have tri : far i j ≤ far j k + far i k := by unfold far; omega
    have tri2 := mul_le hs tri
    rw [Int.mul_add] at tri2
    have gap : (hrs b j).1 - (hrs b i).2 ≤ step * far i j := by
      rcases Nat.lt_trichotomy i j with h | h | h
      · have := hg i j h hj
        unfold gapF at this
        simp only [Bool.or_eq_false_iff, decide_eq_false_iff_not] at this
        have e : far i j = (j : Int) - i := by unfold far; omega
        rw [e]
        omega
      · subst h
        have h2 := hb.lo _ (show hrs b i ∈ b by rw [hrs_get hi]; exact List.getElem_mem hi)
        have e : far i i = 0 := by unfold far; omega
        rw [e, Int.mul_zero]
        omega
      · have := hg j i h hi
        unfold gapF at this
        simp only [Bool.or_eq_false_iff, decide_eq_false_iff_not] at this
        have e : far i j = (i : Int) - j := by unfold far; omega
        rw [e]
        omega
    omega
  omega
end W99
end

section
/-! The number of weathers, backwards and mirrored. -/
namespace W99
open PySem
/-! ### sums over the winds -/
def SS (n : Nat) (g : Nat → Int) : Int := ((List.range n).map g).sum
theorem ss_zero (g : Nat → Int) : SS 0 g = 0 := rfl
theorem ss_succ (n : Nat) (g : Nat → Int) : SS (n + 1) g = SS n g + g n := by
  unfold SS
  rw [List.range_succ, List.map_append, List.sum_append]
  simp
theorem ss_congr {n : Nat} {g h : Nat → Int} (e : ∀ i, i < n → g i = h i) : SS n g = SS n h := by
  unfold SS
  congr 1
  exact List.map_congr_left fun i hi => e i (List.mem_range.mp hi)
theorem ss_add (n : Nat) (g h : Nat → Int) : SS n (fun i => g i + h i) = SS n g + SS n h := by
  induction n with
  | zero => rfl
  | succ n ih => rw [ss_succ, ss_succ, ss_succ, ih]; omega
theorem ss_zeros (n : Nat) : SS n (fun _ => 0) = 0 := by
  induction n with
  | zero => rfl
  | succ n ih => rw [ss_succ, ih]; rfl
theorem ss_mul (n : Nat) (c : Int) (g : Nat → Int) : SS n (fun i => c * g i) = c * SS n g := by
  induction n with
  | zero => rw [ss_zero, ss_zero, Int.mul_zero]
  | succ n ih => rw [ss_succ, ss_succ, ih, Int.mul_add]
theorem ss_swap (n m : Nat) (g : Nat → Nat → Int) : SS n (fun i => SS m fun j => g i j) = SS m fun j => SS n fun i => g i j := by
  induction n with
  | zero => rw [ss_zero]; exact (ss_zeros m).symm
  | succ n ih =>
    rw [ss_succ, ih, ← ss_add]
    exact ss_congr fun j _ => (ss_succ n _).symm
theorem ss_one {n c : Nat} (h : c < n) (g : Nat → Int) : SS n (fun i => if i = c then g i else 0) = g c := by
  induction n with
  | zero => exact absurd h (Nat.not_lt_zero _)
  | succ n ih =>
    rw [ss_succ]
    by_cases e : c = n
    · subst e
      rw [if_pos rfl, show SS c (fun i => if i = c then g i else 0) = 0 from (ss_congr fun i hi => if_neg (by omega)).trans (ss_zeros c)]
      omega
    · rw [ih (by omega), if_neg (fun z => e z.symm)]
      omega
theorem ss_rev (n : Nat) (g : Nat → Int) : SS n (fun i => g (n - 1 - i)) = SS n g := by
  have key : ∀ m, m ≤ n → SS m (fun i => g (n - 1 - i)) + SS (n - m) g = SS n g := fun m => by
    induction m with
    | zero => intro _; rw [ss_zero]; simp
    | succ m ih =>
      intro h
      have := ih (by omega)
      rw [ss_succ]
      have e : n - m = (n - (m + 1)) + 1 := by omega
      rw [e, ss_succ] at this
      have e2 : n - 1 - m = n - (m + 1) := by omega
      rw [e2]
      omega
  have := key n (Nat.le_refl n)
  rw [Nat.sub_self, ss_zero] at this
  omega
/-- from place lo on, n places within N -/
theorem ss_window {N lo n : Nat} (h : lo + n ≤ N) (g : Nat → Int) : SS n (fun i => g (lo + i)) = SS N fun y => if lo ≤ y ∧ y < lo + n then g y else 0 := by
  induction n with
  | zero =>
    rw [ss_zero]
    refine ((ss_congr fun y _ => if_neg (by omega)).trans (ss_zeros N)).symm
  | succ n ih =>
    rw [ss_succ, ih (by omega)]
    have := ss_one (n := N) (c := lo + n) (by omega) g
    rw [← this, ← ss_add]
    refine ss_congr fun y _ => ?_
    by_cases h1 : lo ≤ y ∧ y < lo + n
    · rw [if_pos h1, if_neg (by omega), if_pos (by omega)]; omega
    · rw [if_neg h1]
      by_cases h2 : y = lo + n
      · rw [if_pos h2, if_pos (by omega)]; omega
      · rw [if_neg h2, if_neg (by omega)]; omega
/-! ### the ways, on the winds from 0 to 40 -/
def inP (p : Pr) (y : Nat) : Int := if p.1 ≤ (y : Int) ∧ (y : Int) ≤ p.2 then 1 else 0
def nearS (step : Int) (x y : Nat) : Int := if (((y : Int) - x).natAbs : Int) ≤ step then 1 else 0
def maskF (p : Pr) (u : Nat → Int) : Nat → Int := fun y => inP p y * u y
def moveF (step : Int) (u : Nat → Int) : Nat → Int := fun x => SS 41 fun y => nearS step x y * u y
def pairF (u v : Nat → Int) : Int := SS 41 fun y => u y * v y
def runF (step : Int) : List Pr → (Nat → Int) → Nat → Int
  | [], u => u
  | p :: l, u => runF step l (moveF step (maskF p u))
def runB (step : Int) : List Pr → (Nat → Int) → Nat → Int
  | [], v => v
  | p :: l, v => runB step l (maskF p (moveF step v))
theorem near_sym (step : Int) (x y : Nat) : nearS step x y = nearS step y x := by
  unfold nearS
  have : ((y : Int) - x).natAbs = ((x : Int) - y).natAbs := by omega
  rw [this]
theorem pair_comm (u v : Nat → Int) : pairF u v = pairF v u := ss_congr fun y _ => Int.mul_comm _ _
theorem pair_mask (p : Pr) (u v : Nat → Int) : pairF (maskF p u) v = pairF u (maskF p v) := ss_congr fun y _ => by
  show inP p y * u y * v y = u y * (inP p y * v y)
  rw [Int.mul_comm (inP p y) (u y), Int.mul_assoc]
theorem pair_move (step : Int) (u v : Nat → Int) : pairF (moveF step u) v = pairF u (moveF step v) := by
  have e1 : pairF (moveF step u) v = SS 41 fun x => SS 41 fun y => nearS step x y * u y * v x := ss_congr fun x _ => by
    show (SS 41 fun y => nearS step x y * u y) * v x = _
    rw [Int.mul_comm, ← ss_mul]
    exact ss_congr fun y _ => Int.mul_comm _ _
  have e2 : pairF u (moveF step v) = SS 41 fun y => SS 41 fun x => nearS step x y * u y * v x := ss_congr fun y _ => by
    show u y * (SS 41 fun x => nearS step y x * v x) = _
    rw [← ss_mul]
    refine ss_congr fun x _ => ?_
    rw [near_sym step y x, ← Int.mul_assoc, Int.mul_comm (u y) (nearS step x y)]
  rw [e1, e2, ss_swap]
theorem runF_app (step : Int) : ∀ (l m : List Pr) (u : Nat → Int), runF step (l ++ m) u = runF step m (runF step l u)
  | [], _, _ => rfl
  | p :: l, m, u => runF_app step l m _
theorem pair_run (step : Int) : ∀ (l : List Pr) (u v : Nat → Int), pairF (runF step l u) v = pairF u (runB step l.reverse v)
  | [], u, v => rfl
  | p :: l, u, v => by
    show pairF (runF step l (moveF step (maskF p u))) v = _
    rw [pair_run step l, pair_move, pair_mask, List.reverse_cons]
    congr 1
    have app : ∀ (a b : List Pr) (w : Nat → Int), runB step (a ++ b) w = runB step b (runB step a w) := fun a => by
      induction a with
      | nil => intro b w; rfl
      | cons q a ih => intro b w; exact ih b _
    rw [app]
    rfl
theorem runB_runF (step : Int) : ∀ (m : List Pr) (q p : Pr) (u : Nat → Int), runB step (m ++ [p]) (maskF q u) = maskF p (runF step (q :: m) u)
  | [], q, p, u => rfl
  | r :: m, q, p, u => by
    show runB step (m ++ [p]) (maskF r (moveF step (maskF q u))) = _
    rw [runB_runF step m r p]
    rfl
/-- all ways through the bounds: the last apart -/
def waysF (step : Int) (l : List Pr) (q : Pr) : Int := pairF (maskF q (runF step l fun _ => 1)) fun _ => 1
theorem all_rev (step : Int) (p q : Pr) (m : List Pr) : waysF step (p :: m) q = waysF step (q :: m.reverse) p := by
  unfold waysF
  rw [pair_mask, pair_run, List.reverse_cons, runB_runF, pair_comm]
theorem mir_mask (p : Pr) (u : Nat → Int) : ∀ y, y < 41 → maskF (mir p) (fun x => u (40 - x)) y = maskF p u (40 - y) := fun y hy => by
  show inP (mir p) y * u (40 - y) = inP p (40 - y) * u (40 - y)
  congr 1
  unfold inP mir
  by_cases h : p.1 ≤ (((40 - y : Nat)) : Int) ∧ (((40 - y : Nat)) : Int) ≤ p.2
  · rw [if_pos h, if_pos]
    show 40 - p.2 ≤ (y : Int) ∧ (y : Int) ≤ 40 - p.1
    omega
  · rw [if_neg h, if_neg]
    show ¬ (40 - p.2 ≤ (y : Int) ∧ (y : Int) ≤ 40 - p.1)
    omega
theorem move_congr (step : Int) {u v : Nat → Int} (h : ∀ y, y < 41 → u y = v y) : moveF step u = moveF step v := funext fun x => ss_congr fun y hy => by rw [h y hy]
theorem mir_move (step : Int) (u : Nat → Int) : ∀ x, x < 41 → moveF step (fun y => u (40 - y)) x = moveF step u (40 - x) := fun x hx => by
  unfold moveF
  rw [← ss_rev 41 fun y => nearS step (40 - x) y * u y]
  refine ss_congr fun y hy => ?_
  show nearS step x y * u (40 - y) = nearS step (40 - x) (40 - y) * u (40 - y)
  congr 1
  unfold nearS
  have : ((y : Int) - x).natAbs = ((((40 - y : Nat)) : Int) - (((40 - x : Nat)) : Int)).natAbs := by omega
  rw [this]
theorem mir_run (step : Int) : ∀ (l : List Pr) (u v : Nat → Int), (∀ y, y < 41 → v y = u (40 - y)) → ∀ y, y < 41 → runF step (l.map mir) v y = runF step l u (40 - y)
  | [], _, _, h => h
  | p :: l, u, v, h => by
    refine mir_run step l _ _ fun y hy => ?_
    rw [← mir_move step (maskF p u) y hy]
    rw [move_congr step (v := fun y => maskF p u (40 - y)) fun z hz => ?_]
    rw [← mir_mask p u z hz]
    show inP (mir p) z * v z = inP (mir p) z * u (40 - z)
    rw [h z hz]
theorem all_mir (step : Int) (l : List Pr) (q : Pr) : waysF step (l.map mir) (mir q) = waysF step l q := by
  unfold waysF pairF
  rw [← ss_rev 41 fun y => maskF q (runF step l fun _ => 1) y * 1]
  refine ss_congr fun y hy => ?_
  congr 1
  show inP (mir q) y * runF step (l.map mir) (fun _ => 1) y = maskF q (runF step l fun _ => 1) (40 - y)
  rw [← mir_mask q _ y hy]
  show _ = inP (mir q) y * runF step l (fun _ => 1) (40 - y)
  rw [mir_run step l (fun _ => 1) (fun _ => 1) (fun _ _ => rfl) y hy]
/-! ### what the program counts -/
theorem filter_sum (n : Nat) (q : Nat → Bool) (g : Nat → Int) : (((List.range n).filter q).map g).sum = SS n fun i => if q i = true then g i else 0 := by
  induction n with
  | zero => rfl
  | succ n ih =>
    rw [ss_succ, List.range_succ, List.filter_append, List.map_append, List.sum_append, ih]
    congr 1
    by_cases h : q n = true
    · simp [h]
    · simp [h]
structure InB (p : Pr) : Prop where
  a : 0 ≤ p.1
  b : p.1 ≤ p.2
  c : p.2 ≤ 40
theorem step_eq {p : Pr} (hp : InB p) (step : Int) (wv : Int → Int) (x : Nat) : stepF step p wv (x : Int) = moveF step (maskF p fun y => wv (y : Int)) x := by
  obtain ⟨h1, h2, h3⟩ := hp
  unfold stepF
  rw [filter_sum]
  have e := ss_window (N := 41) (lo := p.1.toNat) (n := spanF p) (by unfold spanF; omega) fun y => if (((y : Int) - x).natAbs : Int) ≤ step then wv (y : Int) else 0
  have e2 : (SS (spanF p) fun (i : Nat) => if decide (((p.1 + (i : Int) - x).natAbs : Int) ≤ step) = true then wv (p.1 + (i : Int)) else 0) = SS (spanF p) fun (i : Nat) => if ((((p.1.toNat + i : Nat) : Int) - x).natAbs : Int) ≤ step then wv ((p.1.toNat + i : Nat) : Int) else 0 := ss_congr fun i _ => by
    have : ((p.1.toNat + i : Nat) : Int) = p.1 + i := by omega
    rw [this]
    by_cases h : ((p.1 + (i : Int) - x).natAbs : Int) ≤ step
    · rw [if_pos h, if_pos (decide_eq_true h)]
    · rw [if_neg h, if_neg (by simpa using h)]
  rw [e2, e]
  unfold moveF
  refine ss_congr fun y _ => ?_
  show _ = nearS step x y * (inP p y * wv (y : Int))
  unfold nearS inP
  by_cases q1 : p.1.toNat ≤ y ∧ y < p.1.toNat + spanF p
  · have q2 : p.1 ≤ (y : Int) ∧ (y : Int) ≤ p.2 := by unfold spanF at q1; omega
    rw [if_pos q1, if_pos q2, Int.one_mul]
    by_cases q3 : (((y : Int) - x).natAbs : Int) ≤ step
    · rw [if_pos q3, if_pos q3, Int.one_mul]
    · rw [if_neg q3, if_neg q3, Int.zero_mul]
  · have q2 : ¬ (p.1 ≤ (y : Int) ∧ (y : Int) ≤ p.2) := by unfold spanF at q1; omega
    rw [if_neg q1, if_neg q2, Int.zero_mul, Int.mul_zero]
theorem sum_eq {p : Pr} (hp : InB p) (wv : Int → Int) : sumF p wv = pairF (maskF p fun y => wv (y : Int)) fun _ => 1 := by
  obtain ⟨h1, h2, h3⟩ := hp
  unfold sumF
  have e := ss_window (N := 41) (lo := p.1.toNat) (n := spanF p) (by unfold spanF; omega) fun y => wv (y : Int)
  have e2 : ((List.range (spanF p)).map fun (i : Nat) => wv (p.1 + (i : Int))).sum = SS (spanF p) fun (i : Nat) => wv ((p.1.toNat + i : Nat) : Int) := ss_congr fun i _ => by
    have : ((p.1.toNat + i : Nat) : Int) = p.1 + i := by omega
    rw [this]
  rw [e2, e]
  unfold pairF
  refine ss_congr fun y _ => ?_
  show _ = inP p y * wv (y : Int) * 1
  unfold inP
  by_cases q1 : p.1.toNat ≤ y ∧ y < p.1.toNat + spanF p
  · have q2 : p.1 ≤ (y : Int) ∧ (y : Int) ≤ p.2 := by unfold spanF at q1; omega
    rw [if_pos q1, if_pos q2, Int.one_mul, Int.mul_one]
  · have q2 : ¬ (p.1 ≤ (y : Int) ∧ (y : Int) ≤ p.2) := by unfold spanF at q1; omega
    rw [if_neg q1, if_neg q2, Int.zero_mul, Int.zero_mul]
/-- the program's way through the hours -/
theorem go_eq (step : Int) : ∀ (r : List Pr) (p : Pr) (wv : Int → Int), InB p → (∀ q ∈ r, InB q) →
    sumF (r.foldl (goF step) (p, wv)).1 (r.foldl (goF step) (p, wv)).2 = pairF (maskF ((p :: r).getLast (by simp)) (runF step ((p :: r).dropLast) fun y => wv (y : Int))) fun _ => 1
  | [], p, wv, hp, _ => sum_eq hp wv
  | q :: r, p, wv, hp, hr => by
    rw [List.foldl_cons, show goF step (p, wv) q = (q, stepF step p wv) from rfl, go_eq step r q _ (hr q List.mem_cons_self) fun x hx => hr x (List.mem_cons_of_mem _ hx)]
    have e : (fun y : Nat => stepF step p wv (y : Int)) = moveF step (maskF p fun y => wv (y : Int)) := funext fun x => step_eq hp step wv x
    rw [e, List.getLast_cons (List.cons_ne_nil q r), List.dropLast_cons_of_ne_nil (List.cons_ne_nil q r)]
    rfl
theorem weathers_eq {b : List Pr} {step : Int} (hb : BoundsOk b step) (l : List Pr) (q : Pr) (e : b = l ++ [q]) : weathersF b step = W99.waysF step l q := by
  have hin : ∀ p ∈ b, InB p := fun p hp => by
    have := hb.lo p hp
    exact ⟨this.1, this.2.1, this.2.2⟩
  unfold weathersF endF
  cases b with
  | nil => exact absurd hb.pos (Nat.lt_irrefl 0)
  | cons p r =>
    have h := go_eq step r p (fun _ => 1) (hin p List.mem_cons_self) fun x hx => hin x (List.mem_cons_of_mem _ hx)
    have e1 : (p :: r).getLast (by simp) = q := by
      have := congrArg List.getLast? e
      rw [List.getLast?_eq_some_getLast (List.cons_ne_nil p r), List.getLast?_concat] at this
      exact Option.some.inj this
    have e2 : (p :: r).dropLast = l := by rw [e]; simp
    rw [e1, e2] at h
    exact h
theorem weathers_rev {b : List Pr} {step : Int} (hb : BoundsOk b step) : weathersF b.reverse step = weathersF b step := by
  obtain ⟨l, q, e⟩ : ∃ l q, b = l ++ [q] := ⟨b.dropLast, b.getLast (List.ne_nil_of_length_pos hb.pos), (List.dropLast_concat_getLast _).symm⟩
  rw [weathers_eq hb l q e]
  cases l with
  | nil =>
    subst e
    exact weathers_eq (bounds_rev hb) [] q rfl
  | cons p m =>
    rw [all_rev]
    refine weathers_eq (bounds_rev hb) (q :: m.reverse) p ?_
    rw [e]
    simp
theorem weathers_mir {b : List Pr} {step : Int} (hb : BoundsOk b step) : weathersF (b.map mir) step = weathersF b step := by
  obtain ⟨l, q, e⟩ : ∃ l q, b = l ++ [q] := ⟨b.dropLast, b.getLast (List.ne_nil_of_length_pos hb.pos), (List.dropLast_concat_getLast _).symm⟩
  rw [weathers_eq hb l q e, ← all_mir]
  exact weathers_eq (bounds_mir hb) _ _ (by rw [e, List.map_append]; rfl)
end W99
end

section
namespace Gh
open PySem L2
section
variable {X : Cx} {C : GC} {Γ : GS} {a : Expr} {pos p2 : Pos}
theorem xb_eq {b : List Stmt} {Γ' : GS} {N : GS → Prop} {R : PyData → GS → Prop} (e : Γ = Γ') (h : Xb X C b Γ' N R) : Xb X C b Γ N R := by rw [e]; exact h
theorem dpAll_reps {K : PySem.W.Frag} {B : Hp} {vs : List V} {ds : List PyData} (h : DpAll K B vs ds) : ∀ n : Nat, DpAll K B (List.replicate n vs).flatten (List.replicate n ds).flatten
  | 0 => .nil
  | n + 1 => by
    rw [List.replicate_succ, List.replicate_succ, List.flatten_cons, List.flatten_cons]
    exact dpAll_app h (dpAll_reps h n)
theorem xm_rep {k : Int} {j : Nat} {Ψ : List PyData → GS → Prop} (h0 : 0 ≤ k) (h1 : k ≤ 1000) (h : Xm X C a Γ fun ds Γ1 => ds.length ≤ 1000 ∧ Ψ (List.replicate k.toNat ds).flatten Γ1) : Xm X C (.BinOp a .Mult (.Constant (.int k) j p2) pos) Γ Ψ :=
  ⟨fun B H σ R Q kk => wpe_of (pe_op op_rep pe_w pe_int) (h.run B H σ R _ fun t vs B1 H1 Γ1 ds s1 R1 ht hd ⟨hl, q⟩ => by
    have hv := dpAll_len hd
    have hm : vs.length * k.toNat ≤ 1000 * 1000 := Nat.mul_le_mul (by omega) (by omega)
    refine ⟨t, k, vs, rfl, rfl, upd_same, by omega, by omega, by rw [PySem.sizeLine_eq]; omega, fun p hp => ?_⟩
    exact kk p _ _ _ Γ1 _ (s1.trans (same_upd (R1.bnone ht))) (R1.new (o := .lst vs) ht) hp (dpAll_mono (same_upd (R1.bnone ht)) _ _ (dpAll_reps hd k.toNat)) q)⟩
end
section
variable {P : Program} {w : World} {K : PySem.W.Frag} {mg : Str → Option Value} {base : Heap}
theorem def_fn {x : Str} {st : Stmt} {N ps : List Str} {k : Nat} {f : Addr} {fd : FuncData} {g : List PyData → (PyData → Prop) → Prop} (F : Fun K x x st f fd) (S : FnScope N ps (defScope st)) (len : ∀ ds Φ, g ds Φ → ds.length = ps.length)
    (body : ∀ (f : Addr) (cdv : Value) (A : Around) (outer : List Env) (s : Shared) (H B : Hp) (E : XK) (ds : List PyData) (Φ : PyData → Prop), Room k (A.deeper (PyProof.Rows.envOfC x (defScope st) s.heap.objs.size f cdv)) → g ds Φ →
      Xb (bodyX P w K mg base N x (defScope st) f cdv A outer s H E) ⟨H, B, []⟩ (defBody st) (ds.map .val ++ List.replicate (N.length - ds.length) .no) (fun _ => Φ .none) (fun d _ => Φ d)) : FnOk P w K mg base CX0 (k + 1) f fd ps (spP K g) := by
  have hpl : ps.length ≤ N.length := by have := congrArg List.length S.pre; rw [List.length_take] at this; omega
  refine F.ok S (fun vs H Q E h => ?_) (fun cdv A outer s H vs Q E hr h => ?_)
  · obtain ⟨B, ds, Φ, bh, hd, hg, _⟩ := h
    rw [dpAll_len hd, len ds Φ hg]
  · obtain ⟨B, ds, Φ, bh, hd, hg, hq⟩ := h
    refine ⟨wpb (bodyX P w K mg base N x (defScope st) f cdv A outer s H E) (defBody st), pb_w, ?_⟩
    have hl := len ds Φ hg
    refine (body f cdv A outer s H B E ds Φ hr hg).run B H _ (start_rel (K := K) bh hd (by omega)) _ (fun B' H' σ' Γ' s' R' q => ?_) fun v B' H' σ' Γ' d s' R' hv q => ?_
    · exact hq _ B' H' _ ⟨s', R'.fh, R'.bh, R'.fr⟩ .non q
    · exact hq v B' H' d ⟨s', R'.fh, R'.bh, R'.fr⟩ hv q
end
end Gh
end

section
namespace W99
open PySem L2 Gh
theorem paper_of {b : List Pr} {step : Int} {Φ : PyData → Prop} {wd : Str} (hb : BoundsOk b step) (h1 : NoGap b step → wd = "weather") (h2 : ¬ NoGap b step → wd = "gap") (h : ∀ x (t : List PyData), Φ (.tuple (.str wd :: x :: t))) : g_weather_paper [dB b step] Φ :=
  ⟨b, step, rfl, hb, fun hg ns => by
    have e := h1 hg
    subst e
    exact h _ [], fun hg i j => by
    have e := h2 hg
    subst e
    exact h _ [_]⟩
theorem told_nar {f : Farm} {b : List Pr} {step stops : Int} {Φ : PyData → Prop} {nd : PyData} (hf : FarmOk f) (hn : f.ms.length ≤ 10) (hb : BoundsOk b step) (hs : 0 ≤ stops)
    (h1 : NoGap b step → nd = .tuple ((narrowedF b step).map dP)) (h2 : ¬ NoGap b step → nd = .none) (h : Φ nd) : g_law_told_or_none [.str "narrowed", dF f, dB b step, .int stops] Φ :=
  ⟨false, f, b, step, stops, rfl, hf, hn, hb, hs, narrow_ok hb, fun hg => by
    have e := h1 hg
    subst e
    exact h, fun hg => by
    have e := h2 hg
    subst e
    exact h⟩
theorem told_sure {f : Farm} {b : List Pr} {step stops : Int} {Φ : PyData → Prop} {nd : PyData} (hf : FarmOk f) (hn : f.ms.length ≤ 10) (hb : BoundsOk b step) (hs : 0 ≤ stops)
    (h1 : NoGap b step → nd = .list (dI ((narrowedF b step).map fun p => worstF f p.1 p.2 stops))) (h2 : ¬ NoGap b step → nd = .none) (h : Φ nd) : g_law_told_or_none [.str "sure", dF f, dB b step, .int stops] Φ :=
  ⟨true, f, b, step, stops, rfl, hf, hn, hb, hs, narrow_ok hb, fun hg => by
    have e := h1 hg
    subst e
    exact h, fun hg => by
    have e := h2 hg
    subst e
    exact h⟩
theorem pick {α : Type} (p : Prop) (a b : α) : ∃ x : α, (p → x = a) ∧ (¬ p → x = b) := by
  by_cases h : p
  · exact ⟨a, fun _ => rfl, fun g => absurd h g⟩
  · exact ⟨b, fun g => absurd g h, fun _ => rfl⟩
theorem pl_int {n : Nat} {i : Int} : plainD n (.int i) := by cases n <;> trivial
theorem pl_none {n : Nat} : plainD n .none := by cases n <;> trivial
theorem pl_ints {n : Nat} {xs : List Int} (h : xs.length ≤ 1000000) : plainD (n + 1) (.list (dI xs)) := ⟨by rw [List.length_map]; exact h, fun d hd => by
  obtain ⟨x, _, rfl⟩ := List.mem_map.mp hd
  exact pl_int⟩
theorem pl_dP {n : Nat} {p : Pr} : plainD (n + 1) (dP p) := ⟨by show 2 ≤ 1000000; decide, fun d hd => by
  rcases List.mem_cons.mp hd with rfl | hd
  · exact pl_int
  · rcases List.mem_singleton.mp hd with rfl
    exact pl_int⟩
theorem pl_prs {n : Nat} {xs : List Pr} (h : xs.length ≤ 1000000) : plainD (n + 2) (.list (xs.map dP)) := ⟨by rw [List.length_map]; exact h, fun d hd => by
  obtain ⟨x, _, rfl⟩ := List.mem_map.mp hd
  exact pl_dP⟩
theorem pl_prT {n : Nat} {xs : List Pr} (h : xs.length ≤ 1000000) : plainD (n + 2) (.tuple (xs.map dP)) := ⟨by rw [List.length_map]; exact h, fun d hd => by
  obtain ⟨x, _, rfl⟩ := List.mem_map.mp hd
  exact pl_dP⟩
theorem pl_two {n : Nat} {a b : PyData} (ha : plainD n a) (hb : plainD n b) : plainD (n + 1) (.list [a, b]) := ⟨by show 2 ≤ 1000000; decide, fun d hd => by
  rcases List.mem_cons.mp hd with rfl | hd
  · exact ha
  · rcases List.mem_singleton.mp hd with rfl
    exact hb⟩
theorem pl_pick {n : Nat} {p : Prop} {d a : PyData} (ha : plainD n a) (h1 : p → d = a) (h2 : ¬ p → d = .none) : plainD n d := by
  by_cases h : p
  · rw [h1 h]; exact ha
  · rw [h2 h]; exact pl_none
theorem dI_all {xs : List Int} {n : Nat} (h : n = xs.length) : ((List.range n).filter fun _ => true).map (fun i => PyData.int (xs.getD i 0)) = dI xs := by
  subst h
  exact map_getD_all xs 0 .int
section
variable {f : Farm} {nm kd sd : List Int} {ws : List Wk} {c c' : Case}
theorem Ren.outs_ix (R : Ren f nm kd sd ws c c') {i : Nat} (hi : i < f.ms.length) : atI (dI (outsF (renF f nm kd ws) c')) (atF nm (i : Int)) = some (.int ((outsF f c).getD i 0)) := by
  have hb := at_lo R.hn (k := (i : Int)) (by omega) (by omega)
  rw [← R.outs_at hi]
  exact atF_ix hb.1 (by
    have : (outsF (renF f nm kd ws) c').length = f.ms.length := by simp [outsF, renM]
    rw [this]
    exact hb.2)
theorem Ren.winds_ix (R : Ren f nm kd sd ws c c') {i : Nat} (hi : i < f.ms.length) : atI (dI (windsF (renF f nm kd ws) c')) (atF nm (i : Int)) = some (.int ((windsF f c).getD i 0)) := by
  have hb := at_lo R.hn (k := (i : Int)) (by omega) (by omega)
  rw [← R.winds_at hi]
  exact atF_ix hb.1 (by
    have : (windsF (renF f nm kd ws) c').length = f.ms.length := by simp [windsF, renM]
    rw [this]
    exact hb.2)
theorem outs_len : (outsF f c).length = f.ms.length := by simp [outsF]
theorem winds_len : (windsF f c).length = f.ms.length := by simp [windsF]
theorem there_off (nm off : List Int) : ∃ off' : List Int, (dI (off.map (atF nm))).mergeSort (PySem.W.dataLe false id) = dI off' ∧ off'.Perm (off.map (atF nm)) :=
  perm_coded PyData.int (List.mergeSort_perm (dI (off.map (atF nm))) (PySem.W.dataLe false id))
theorem ren_of (g : FarmGen f) (hn : nm.Perm (rgI f.ms.length)) (hk : kd.Perm (rgI f.cs.length)) (hs : sd.Perm (rgI 4)) (hw : ws.Perm (renW f nm sd)) (d0 : 0 ≤ c.dir) (d1 : c.dir < 4) (ho : ∀ k ∈ c.off, 0 ≤ k ∧ k < f.ms.length) {off' : List Int} (hp : off'.Perm (c.off.map (atF nm))) : Ren f nm kd sd ws c ⟨c.wind, atF sd c.dir, off'⟩ where
  g := g
  hn := hn
  hk := hk
  hs := hs
  hw := hw
  ew := rfl
  d0 := d0
  d1 := d1
  ed := rfl
  off := fun i h0 h1 => by
    show atF nm i ∈ off' ↔ i ∈ c.off
    rw [hp.mem_iff, List.mem_map]
    constructor
    · rintro ⟨k, hk, e⟩
      have := at_inj hn (ho k hk).1 (ho k hk).2 h0 h1 e
      rw [← this]
      exact hk
    · exact fun h => ⟨i, h, rfl⟩
end
theorem down_ix {b : List Pr} {k : Nat} (hk : k < b.length) {z : Int} (ez : z = (b.length : Int) - 1 - k) : atI (b.map dP) z = some (dP (b.reverse.getD k (0, 0))) :=
  atNM (i := b.length - 1 - k) (by
    rw [← List.getElem?_reverse hk]
    exact getElem?_getD _ (by rw [List.length_reverse]; exact hk)) (by omega)
theorem rev_all {b : List Pr} {n : Nat} (h : n = b.length) : ((List.range n).filter fun _ => true).map (fun i => dP (b.reverse.getD i (0, 0))) = b.reverse.map dP := by
  rw [h, ← List.length_reverse]
  exact map_getD_all b.reverse (0, 0) dP
theorem mir_all {b : List Pr} {n : Nat} (h : n = b.length) : ((List.range n).filter fun _ => true).map (fun i => dP (mir (b.getD i (0, 0)))) = (b.map mir).map dP := by
  rw [h, List.map_map]
  exact map_getD_all b (0, 0) fun p => dP (mir p)
theorem three_of {b : List Pr} {step : Int} {wd : Str} (hb : BoundsOk b step) (h1 : NoGap b step → wd = "weather") (h2 : ¬ NoGap b step → wd = "gap") {i : Nat} (hi : i < 3) :
    ∃ bi, [dB b step, dB b.reverse step, dB (b.map mir) step].getD i .none = dB bi step ∧ BoundsOk bi step ∧ (NoGap bi step → wd = "weather") ∧ (¬ NoGap bi step → wd = "gap") := by
  obtain rfl | rfl | rfl : i = 0 ∨ i = 1 ∨ i = 2 := by omega
  · exact ⟨b, rfl, hb, h1, h2⟩
  · exact ⟨b.reverse, rfl, bounds_rev hb, fun h => h1 (nogap_rev.mp h), fun h => h2 fun g => h (nogap_rev.mpr g)⟩
  · exact ⟨b.map mir, rfl, bounds_mir hb, fun h => h1 (nogap_mir.mp h), fun h => h2 fun g => h (nogap_mir.mpr g)⟩
theorem words_ok {wd : Str} {p : Prop} (h1 : p → wd = "weather") (h2 : ¬ p → wd = "gap") : SeqAt.shaped (.list [.str wd, .str wd, .str wd]) = true := by
  by_cases h : p
  · rw [h1 h]; decide +kernel
  · rw [h2 h]; decide +kernel
theorem words_eq (wd : Str) : PyData.eqv (.list [.str wd, .str wd, .str wd]) (.list [.str wd, .str wd, .str wd]) = true := by simp [PyData.eqv, PyData.eqvAll]
theorem ints_ok (a b : Int) : SeqAt.shaped (.list [.int a, .int b]) = true := by simp [SeqAt.shaped, PyData.canLay0, PyData.canLayAll0, PyData.depth, PyData.depthAll]
theorem ints_eq (a b : Int) : PyData.eqv (.list [.int a, .int b]) (.list [.int a, .int b]) = true := by simp [PyData.eqv, PyData.eqvAll]
theorem alike_int (a b : Int) : PySem.W.alike (.int a) (.int b) = true := by simp [PySem.W.alike]
theorem rg_list (n : Nat) : rgD n = dI (rgI n) := by
  rw [rgD, dI, rgI, List.map_map]
  rfl
end W99
end

section
namespace W99
open PySem L2 Gh
variable {P : Program} {w : World} {K : PySem.W.Frag} {mg : Str → Option Value} {base : Heap}
def g_law (ds : List PyData) (Φ : PyData → Prop) : Prop := ∃ cells : List Int, ds = [.list (dI cells)] ∧ Φ (.bool true)
theorem ok_law {fl : Addr} {fd : FuncData} (F : Fun K "law" "law" s_law fl fd) (T : Bi mg) (c_law_pool : Cal P w K mg base 1 "_law_pool" (spN K g_law_pool)) (c_law_farm : Cal P w K mg base 4 "_law_farm" (spM K g_law_farm)) (c_law_draw : Cal P w K mg base 2 "_law_draw" (spM K g_law_draw)) (c_law_shuffled : Cal P w K mg base 3 "_law_shuffled" (spM K g_law_shuffled)) (c_law_farm_renamed : Cal P w K mg base 1 "_law_farm_renamed" (spP K g_law_farm_renamed)) (c_law_some_case : Cal P w K mg base 3 "_law_some_case" (spM K g_law_some_case)) (c_outputs : Cal P w K mg base 3 "outputs" (spP K g_outputs)) (c_winds_at : Cal P w K mg base 2 "winds_at" (spP K g_winds_at)) (c_law_same : Cal P w K mg base 7 "_law_same" (spP K (g_law_same 6))) (c_output : Cal P w K mg base 4 "output" (spP K g_output)) (c_fair_losses : Cal P w K mg base 7 "fair_losses" (spP K g_fair_losses)) (c_gives : Cal P w K mg base 5 "gives" (spP K g_gives)) (c_worst_case : Cal P w K mg base 5 "worst_case" (spP K g_worst_case)) (c_best_case : Cal P w K mg base 5 "best_case" (spP K g_best_case)) (c_law_bounds : Cal P w K mg base 3 "_law_bounds" (spM K g_law_bounds)) (c_weather_paper : Cal P w K mg base 5 "weather_paper" (spP K g_weather_paper)) (c_weathers : Cal P w K mg base 1 "weathers" (spP K g_weathers)) (c_law_told_or_none : Cal P w K mg base 7 "_law_told_or_none" (spP K g_law_told_or_none)) : FnOk P w K mg base CX0 8 fl fd ["script"] (spP K g_law) := by
  have S := sc_law
  refine def_fn F S (fun ds Φ ⟨_, h, _⟩ => by rw [h]; rfl) fun fa cdv A outer s H B E ds Φ hr h => ?_
  obtain ⟨cells, rfl, hq⟩ := h
  refine xb_cons ?_
  refine xs_asgM 1 ?_ S.nd
  refine xm_call c_law_pool (hr.mono (by decide)) ?_
  refine xa_cons ?_
  refine xe_var 0 rfl ?_
  refine xa_nil ?_
  refine ⟨cells, rfl, fun pl0 hp0 => ?_⟩
  refine ⟨lq rfl, fr0 rfl, ?_⟩
  refine xb_cons ?_
  refine xs_for [2] PassesOwn.never rfl ?_
  refine xi_range1 T.range ?_
  refine xe_int ?_
  refine ⟨_, rfl, by decide, by decide, ?_⟩
  refine ⟨fun _ Γ => ∃ (pl : List PyData) (x2 x3 x4 x5 x6 x7 x8 x9 x10 x11 x12 x13 x15 x16 x17 x18 x19 x20 x21 x22 x23 x24 x25 x28 x30 x31 : GE), Γ = [.val (.list (dI cells)), .lst pl, x2, x3, x4, x5, x6, x7, x8, x9, x10, x11, x12, x13, .no, x15, x16, x17, x18, x19, x20, x21, x22, x23, x24, x25, .no, .no, x28, .no, x30, x31] ∧ PoolOk pl, ⟨pl0, _, _, _, _, _, _, _, _, _, _, _, _, _, _, _, _, _, _, _, _, _, _, _, _, _, _, rfl, hp0⟩, fun i Γ2 hi hP => ?_, fun Γ2 hP => ?_⟩
  · obtain ⟨pl, x2, x3, x4, x5, x6, x7, x8, x9, x10, x11, x12, x13, x15, x16, x17, x18, x19, x20, x21, x22, x23, x24, x25, x28, x30, x31, rfl, hp⟩ := hP
    refine xg_name 2 (lq rfl) (fr0 rfl) ?_ S.nd
    refine xb_cons ?_
    refine xs_asg 3 ?_ S.nd
    refine xe_callM 1 c_law_farm (hr.mono (by decide)) ?_
    refine xa_cons ?_
    refine xe_int ?_
    refine xa_cons ?_
    refine xe_ix ?_
    refine xe_tup ?_
    refine xa_cons ?_
    refine xe_int ?_
    refine xa_cons ?_
    refine xe_int ?_
    refine xa_nil ?_
    refine ⟨by simp, ?_⟩
    refine xe_callM 1 c_law_draw (hr.mono (by decide)) ?_
    refine xa_cons ?_
    refine xe_int ?_
    refine xa_nil ?_
    refine ⟨_, rfl, hp, _, rfl, by decide, by decide, fun v1 pl1 hv1 hw1 hp1 => ?_⟩
    obtain ⟨top, ht, ht0, ht1⟩ : ∃ top : Int, atI [PyData.int 9, PyData.int 100] v1 = some (.int top) ∧ 0 ≤ top ∧ top ≤ 100 := by
      obtain rfl | rfl : v1 = 0 ∨ v1 = 1 := by omega
      · exact ⟨9, rfl, by decide, by decide⟩
      · exact ⟨100, rfl, by decide, by decide⟩
    refine ⟨_, _, _, _, rfl, rfl, ht, ?_⟩
    refine xa_nil ?_
    refine ⟨_, rfl, hp1, top, rfl, ht0, ht1, fun f pl2 hf hp2 => ?_⟩
    refine ⟨lq rfl, fr0 rfl, ?_⟩
    have hc2 := hf.c2
    have hm2 := hf.m2
    have hfo := hf.ok
    refine xb_eq (Γ' := [.val (.list (dI cells)), .lst pl2, .val (.int (i : Nat)), .val (dF f), x4, x5, x6, x7, x8, x9, x10, x11, x12, x13, .no, x15, x16, x17, x18, x19, x20, x21, x22, x23, x24, x25, .no, .no, x28, .no, x30, x31]) (rfl) ?_
    refine xb_cons ?_
    refine xs_asg 4 ?_ S.nd
    refine xe_len T.len ?_
    refine xq_e ?_
    refine xe_ix ?_
    refine xe_var 3 rfl ?_
    refine xe_int ?_
    refine ⟨_, _, _, _, rfl, rfl, rfl, ?_⟩
    refine ⟨_, _, rfl, ?_⟩
    rw [List.length_map]
    refine ⟨lq rfl, fr0 rfl, ?_⟩
    refine xb_eq (Γ' := [.val (.list (dI cells)), .lst pl2, .val (.int (i : Nat)), .val (dF f), .val (.int (f.ms.length : Nat)), x5, x6, x7, x8, x9, x10, x11, x12, x13, .no, x15, x16, x17, x18, x19, x20, x21, x22, x23, x24, x25, .no, .no, x28, .no, x30, x31]) (rfl) ?_
    refine xb_cons ?_
    refine xs_asgT [5, 6, 7] ?_
    refine xe_tup ?_
    refine xa_cons ?_
    refine xe_callM 1 c_law_shuffled (hr.mono (by decide)) ?_
    refine xa_cons ?_
    refine xe_m (xm_listRange rfl T.list T.range ?_)
    refine xe_var 4 rfl ?_
    refine ⟨_, rfl, by omega, by omega, ?_⟩
    rw [Int.toNat_natCast, rg_list]
    refine xa_nil ?_
    refine ⟨_, rfl, hp2, _, rfl, by rw [rg_len]; omega, fun nm pl3 hn hp3 => ?_⟩
    refine xa_cons ?_
    refine xe_callM 1 c_law_shuffled (hr.mono (by decide)) ?_
    refine xa_cons ?_
    refine xe_m (xm_listRange rfl T.list T.range ?_)
    refine xe_len T.len ?_
    refine xq_e ?_
    refine xe_ix ?_
    refine xe_var 3 rfl ?_
    refine xe_int ?_
    refine ⟨_, _, _, _, rfl, rfl, rfl, ?_⟩
    refine ⟨_, _, rfl, ?_⟩
    rw [List.length_map]
    refine ⟨_, rfl, by omega, by omega, ?_⟩
    rw [Int.toNat_natCast, rg_list]
    refine xa_nil ?_
    refine ⟨_, rfl, hp3, _, rfl, by rw [rg_len]; omega, fun kd pl4 hk hp4 => ?_⟩
    refine xa_cons ?_
    refine xe_callM 1 c_law_shuffled (hr.mono (by decide)) ?_
    refine xa_cons ?_
    refine xe_m (xm_lst ?_)
    refine xa_cons ?_
    refine xe_int ?_
    refine xa_cons ?_
    refine xe_int ?_
    refine xa_cons ?_
    refine xe_int ?_
    refine xa_cons ?_
    refine xe_int ?_
    refine xa_nil ?_
    refine ⟨by simp, ?_⟩
    refine xa_nil ?_
    refine ⟨_, rfl, hp4, rgI 4, rfl, by rw [rg_len]; omega, fun sd pl5 hs hp5 => ?_⟩
    refine xa_nil ?_
    refine ⟨by simp, ?_⟩
    refine xg_tup rfl ⟨_, rfl, rfl, ?_⟩
    refine xgs_nm 5 (lq rfl) (fr0 rfl) ?_ S.nd
    refine xgs_nm 6 (lq rfl) (fr0 rfl) ?_ S.nd
    refine xgs_nm 7 (lq rfl) (fr0 rfl) ?_ S.nd
    refine xgs_nil ?_
    refine xb_eq (Γ' := [.val (.list (dI cells)), .lst pl5, .val (.int (i : Nat)), .val (dF f), .val (.int (f.ms.length : Nat)), .val (.list (dI nm)), .val (.list (dI kd)), .val (.list (dI sd)), x8, x9, x10, x11, x12, x13, .no, x15, x16, x17, x18, x19, x20, x21, x22, x23, x24, x25, .no, .no, x28, .no, x30, x31]) (rfl) ?_
    refine xb_cons ?_
    refine xs_asg 8 ?_ S.nd
    refine xe_call c_law_farm_renamed (hr.mono (by decide)) ?_
    refine xa_cons ?_
    refine xe_var 3 rfl ?_
    refine xa_cons ?_
    refine xe_var 5 rfl ?_
    refine xa_cons ?_
    refine xe_var 6 rfl ?_
    refine xa_cons ?_
    refine xe_var 7 rfl ?_
    refine xa_nil ?_
    refine ⟨f, nm, kd, sd, rfl, hf, hn, hk, hs, fun ws hws => ?_⟩
    refine ⟨lq rfl, fr0 rfl, ?_⟩
    have hg := ren_ok hf hn hk hs hws
    have hgo := hg.ok
    have RB : RenB f nm kd sd ws := ⟨hf, hn, hk, hs, hws⟩
    refine xb_eq (Γ' := [.val (.list (dI cells)), .lst pl5, .val (.int (i : Nat)), .val (dF f), .val (.int (f.ms.length : Nat)), .val (.list (dI nm)), .val (.list (dI kd)), .val (.list (dI sd)), .val (dF (renF f nm kd ws)), x9, x10, x11, x12, x13, .no, x15, x16, x17, x18, x19, x20, x21, x22, x23, x24, x25, .no, .no, x28, .no, x30, x31]) (rfl) ?_
    refine xb_cons ?_
    refine xs_asgT [9, 10, 11] ?_
    refine xe_callM 1 c_law_some_case (hr.mono (by decide)) ?_
    refine xa_cons ?_
    refine xe_var 4 rfl ?_
    refine xa_nil ?_
    refine ⟨_, rfl, hp5, _, rfl, by omega, fun ca pl6 hw6 hd6 ho6 hl6 hp6 => ?_⟩
    refine xg_tup rfl ⟨_, rfl, rfl, ?_⟩
    refine xgs_nm 9 (lq rfl) (fr0 rfl) ?_ S.nd
    refine xgs_nm 10 (lq rfl) (fr0 rfl) ?_ S.nd
    refine xgs_nm 11 (lq rfl) (fr0 rfl) ?_ S.nd
    refine xgs_nil ?_
    refine xb_eq (Γ' := [.val (.list (dI cells)), .lst pl6, .val (.int (i : Nat)), .val (dF f), .val (.int (f.ms.length : Nat)), .val (.list (dI nm)), .val (.list (dI kd)), .val (.list (dI sd)), .val (dF (renF f nm kd ws)), .val (.int ca.wind), .val (.int ca.dir), .val (.tuple (dI ca.off)), x12, x13, .no, x15, x16, x17, x18, x19, x20, x21, x22, x23, x24, x25, .no, .no, x28, .no, x30, x31]) (rfl) ?_
    refine xb_cons ?_
    refine xs_asg 12 ?_ S.nd
    refine xe_tup ?_
    refine xa_cons ?_
    refine xe_var 9 rfl ?_
    refine xa_cons ?_
    refine xe_var 10 rfl ?_
    refine xa_cons ?_
    refine xe_var 11 rfl ?_
    refine xa_nil ?_
    refine ⟨by simp, ?_⟩
    refine ⟨lq rfl, fr0 rfl, ?_⟩
    refine xb_eq (Γ' := [.val (.list (dI cells)), .lst pl6, .val (.int (i : Nat)), .val (dF f), .val (.int (f.ms.length : Nat)), .val (.list (dI nm)), .val (.list (dI kd)), .val (.list (dI sd)), .val (dF (renF f nm kd ws)), .val (.int ca.wind), .val (.int ca.dir), .val (.tuple (dI ca.off)), .val (dK ca), x13, .no, x15, x16, x17, x18, x19, x20, x21, x22, x23, x24, x25, .no, .no, x28, .no, x30, x31]) (rfl) ?_
    obtain ⟨off', eo, ho⟩ := there_off nm ca.off
    refine xb_cons ?_
    refine xs_asg 13 ?_ S.nd
    refine xe_tup ?_
    refine xa_cons ?_
    refine xe_var 9 rfl ?_
    refine xa_cons ?_
    refine xe_ix ?_
    refine xe_var 7 rfl ?_
    refine xe_var 10 rfl ?_
    refine ⟨_, _, _, _, rfl, rfl, atF_ix hd6.1 (by rw [perm_len hs]; exact hd6.2), ?_⟩
    refine xa_cons ?_
    refine xe_tupleOf T.tuple ?_
    refine xq_e ?_
    refine xe_m (xm_sortedD hr.units T.sorted ?_)
    refine xq_e ?_
    refine xe_m ?_
    refine xm_lc [("k", 14)] rfl S.nd (blkOk_by rfl) (fun _ h => nomatch h) (lc_pure ?_)
    refine xi_seq ?_
    refine xe_var 11 rfl ?_
    refine ⟨_, _, rfl, ?_⟩
    rw [List.length_map]
    refine ⟨by omega, fun _ => true, fun i => (fun k : Int => PyData.int (atF nm k)) (ca.off.getD i 0), fun i hi => ?_, ?_⟩
    · have hm : ca.off.getD i 0 ∈ ca.off := by
        rw [List.getD_eq_getElem?_getD, List.getElem?_eq_getElem hi]
        exact List.getElem_mem hi
      have hb := ho6 _ hm
      refine ⟨nomu, fun s1 H1 Ca cl fp C' hC => ?_⟩
      refine xg_eq (getD_mapD 0 hi) ?_
      refine xg_name 14 (lq rfl) (fr0 hC) ?_ S.nd
      intro s1 H1 Ca cl fp
      refine xts_nil ?_
      refine ⟨fun hk => (nomatch hk), fun hk s1 H1 Ca cl fp => ?_⟩
      refine xe_ix ?_
      refine xe_var 5 rfl ?_
      refine xe_var 14 rfl ?_
      refine ⟨_, _, _, _, rfl, rfl, atF_ix hb.1 (by rw [perm_len hn]; exact hb.2), ?_⟩
      exact ⟨rfl, rfl, rfl⟩
    rw [map_getD_all ca.off 0 fun k : Int => PyData.int (atF nm k)]
    have er : ca.off.map (fun k : Int => PyData.int (atF nm k)) = dI (ca.off.map (atF nm)) := by rw [dI, List.map_map]; rfl
    rw [er]
    refine ⟨_, _, rfl, ?_⟩
    refine ⟨rfl, fun d hd d' hd' => ?_, .inr fun d hd => ?_, fun d hd => ?_, ?_⟩
    · obtain ⟨x, _, rfl⟩ := List.mem_map.mp hd
      obtain ⟨y, _, rfl⟩ := List.mem_map.mp hd'
      exact alike_int x y
    · obtain ⟨x, _, rfl⟩ := List.mem_map.mp hd
      exact ⟨fun h => (nomatch h), fun _ h => (nomatch h)⟩
    · obtain ⟨x, _, rfl⟩ := List.mem_map.mp hd
      simp [PyData.depth]
    rw [eo]
    refine ⟨_, _, rfl, ?_⟩
    refine ⟨rfl, ?_⟩
    refine xa_nil ?_
    refine ⟨by simp, ?_⟩
    refine ⟨lq rfl, fr0 rfl, ?_⟩
    obtain ⟨cb, ecb⟩ : ∃ cb : Case, cb = ⟨ca.wind, atF sd ca.dir, off'⟩ := ⟨_, rfl⟩
    have R : Ren f nm kd sd ws ca cb := by
      rw [ecb]
      exact ren_of hf hn hk hs hws hd6.1 hd6.2 ho6 ho
    refine xb_eq (Γ' := [.val (.list (dI cells)), .lst pl6, .val (.int (i : Nat)), .val (dF f), .val (.int (f.ms.length : Nat)), .val (.list (dI nm)), .val (.list (dI kd)), .val (.list (dI sd)), .val (dF (renF f nm kd ws)), .val (.int ca.wind), .val (.int ca.dir), .val (.tuple (dI ca.off)), .val (dK ca), .val (dK cb), .no, x15, x16, x17, x18, x19, x20, x21, x22, x23, x24, x25, .no, .no, x28, .no, x30, x31]) (by rw [ecb]; rfl) ?_
    refine xb_cons ?_
    refine xs_par 15 16 rfl ?_ S.nd
    refine xa_cons ?_
    refine xe_call c_outputs (hr.mono (by decide)) ?_
    refine xa_cons ?_
    refine xe_var 3 rfl ?_
    refine xa_cons ?_
    refine xe_var 12 rfl ?_
    refine xa_nil ?_
    refine ⟨f, ca, rfl, hfo, ?_⟩
    refine xa_cons ?_
    refine xe_call c_winds_at (hr.mono (by decide)) ?_
    refine xa_cons ?_
    refine xe_var 3 rfl ?_
    refine xa_cons ?_
    refine xe_var 12 rfl ?_
    refine xa_nil ?_
    refine ⟨f, ca, rfl, hfo, ?_⟩
    refine xa_nil ?_
    refine ⟨_, _, rfl, lq rfl, lq rfl, fr0 rfl, fr0 rfl, ?_⟩
    refine xb_eq (Γ' := [.val (.list (dI cells)), .lst pl6, .val (.int (i : Nat)), .val (dF f), .val (.int (f.ms.length : Nat)), .val (.list (dI nm)), .val (.list (dI kd)), .val (.list (dI sd)), .val (dF (renF f nm kd ws)), .val (.int ca.wind), .val (.int ca.dir), .val (.tuple (dI ca.off)), .val (dK ca), .val (dK cb), .no, .val (.list (dI (outsF f ca))), .val (.list (dI (windsF f ca))), x17, x18, x19, x20, x21, x22, x23, x24, x25, .no, .no, x28, .no, x30, x31]) (rfl) ?_
    refine xb_cons ?_
    refine xs_if ?_
    refine xt_eq false ?_ ?_
    · refine xt_w ?_
      refine xw_or ?_
      refine xt_not ?_
      refine xt_val ?_
      refine xe_call c_law_same (hr.mono (by decide)) ?_
      refine xa_cons ?_
      refine xe_m ?_
      refine xm_lc [("k", 14)] rfl S.nd (blkOk_by rfl) (fun _ h => nomatch h) (lc_pure ?_)
      refine xi_range1 T.range ?_
      refine xe_var 4 rfl ?_
      refine ⟨_, rfl, by omega, by omega, ?_⟩
      rw [Int.toNat_natCast]
      refine ⟨by omega, fun _ => true, fun i => .int ((outsF f ca).getD i 0), fun i hi => ?_, ?_⟩
      · have hb := at_lo hn (k := (i : Int)) (by omega) (by omega)
        refine ⟨nomu, fun s1 H1 Ca cl fp C' hC => ?_⟩
        refine xg_name 14 (lq rfl) (fr0 hC) ?_ S.nd
        intro s1 H1 Ca cl fp
        refine xts_nil ?_
        refine ⟨fun hk => (nomatch hk), fun hk s1 H1 Ca cl fp => ?_⟩
        refine xe_ix ?_
        refine xe_call c_outputs (hr.mono (by decide)) ?_
        refine xa_cons ?_
        refine xe_var 8 rfl ?_
        refine xa_cons ?_
        refine xe_var 13 rfl ?_
        refine xa_nil ?_
        refine ⟨_, _, rfl, hgo, ?_⟩
        refine xe_ix ?_
        refine xe_var 5 rfl ?_
        refine xe_var 14 rfl ?_
        refine ⟨_, _, _, _, rfl, rfl, atF_ix (by omega) (by rw [perm_len hn]; omega), ?_⟩
        refine ⟨_, _, _, _, rfl, rfl, R.outs_ix hi, ?_⟩
        exact ⟨rfl, rfl, rfl⟩
      rw [dI_all outs_len.symm]
      refine xa_cons ?_
      refine xe_var 15 rfl ?_
      refine xa_nil ?_
      refine ⟨_, rfl, pl_ints (by rw [outs_len]; omega), ?_⟩
      refine ⟨_, rfl, ?_⟩
      refine ⟨fun hk => (nomatch hk), fun _ => ?_⟩
      refine xw_or1 ?_
      refine xt_not ?_
      refine xt_val ?_
      refine xe_call c_law_same (hr.mono (by decide)) ?_
      refine xa_cons ?_
      refine xe_m ?_
      refine xm_lc [("k", 14)] rfl S.nd (blkOk_by rfl) (fun _ h => nomatch h) (lc_pure ?_)
      refine xi_range1 T.range ?_
      refine xe_var 4 rfl ?_
      refine ⟨_, rfl, by omega, by omega, ?_⟩
      rw [Int.toNat_natCast]
      refine ⟨by omega, fun _ => true, fun i => .int ((windsF f ca).getD i 0), fun i hi => ?_, ?_⟩
      · have hb := at_lo hn (k := (i : Int)) (by omega) (by omega)
        refine ⟨nomu, fun s1 H1 Ca cl fp C' hC => ?_⟩
        refine xg_name 14 (lq rfl) (fr0 hC) ?_ S.nd
        intro s1 H1 Ca cl fp
        refine xts_nil ?_
        refine ⟨fun hk => (nomatch hk), fun hk s1 H1 Ca cl fp => ?_⟩
        refine xe_ix ?_
        refine xe_call c_winds_at (hr.mono (by decide)) ?_
        refine xa_cons ?_
        refine xe_var 8 rfl ?_
        refine xa_cons ?_
        refine xe_var 13 rfl ?_
        refine xa_nil ?_
        refine ⟨_, _, rfl, hgo, ?_⟩
        refine xe_ix ?_
        refine xe_var 5 rfl ?_
        refine xe_var 14 rfl ?_
        refine ⟨_, _, _, _, rfl, rfl, atF_ix (by omega) (by rw [perm_len hn]; omega), ?_⟩
        refine ⟨_, _, _, _, rfl, rfl, R.winds_ix hi, ?_⟩
        exact ⟨rfl, rfl, rfl⟩
      rw [dI_all winds_len.symm]
      refine xa_cons ?_
      refine xe_var 16 rfl ?_
      refine xa_nil ?_
      refine ⟨_, rfl, pl_ints (by rw [winds_len]; omega), ?_⟩
      refine ⟨_, rfl, ?_⟩
      exact ⟨rfl, rfl⟩
    refine ⟨fun hc => (nomatch hc), fun _ => xb_nil ?_⟩
    refine xb_cons ?_
    refine xs_if ?_
    refine xt_eq false ?_ ?_
    · refine xt_neI ?_
      refine xe_call c_output (hr.mono (by decide)) ?_
      refine xa_cons ?_
      refine xe_var 8 rfl ?_
      refine xa_cons ?_
      refine xe_var 13 rfl ?_
      refine xa_nil ?_
      refine ⟨_, _, rfl, hgo, ?_⟩
      refine xe_call c_output (hr.mono (by decide)) ?_
      refine xa_cons ?_
      refine xe_var 3 rfl ?_
      refine xa_cons ?_
      refine xe_var 12 rfl ?_
      refine xa_nil ?_
      refine ⟨_, _, rfl, hfo, ?_⟩
      refine ⟨_, _, rfl, rfl, ?_⟩
      exact ⟨rfl, by rw [R.outF]; simp⟩
    refine ⟨fun hc => (nomatch hc), fun _ => xb_nil ?_⟩
    refine xb_cons ?_
    refine xs_asg 17 ?_ S.nd
    refine xe_ix ?_
    refine xe_tup ?_
    refine xa_cons ?_
    refine xe_int ?_
    refine xa_cons ?_
    refine xe_int ?_
    refine xa_cons ?_
    refine xe_callM 1 c_law_draw (hr.mono (by decide)) ?_
    refine xa_cons ?_
    refine xe_int ?_
    refine xa_nil ?_
    refine ⟨_, rfl, hp6, _, rfl, by decide, by decide, fun v7 pl7 hv7 hw7 hp7 => ?_⟩
    refine xa_nil ?_
    refine ⟨by simp, ?_⟩
    refine xe_callM 1 c_law_draw (hr.mono (by decide)) ?_
    refine xa_cons ?_
    refine xe_int ?_
    refine xa_nil ?_
    refine ⟨_, rfl, hp7, _, rfl, by decide, by decide, fun v8 pl8 hv8 hw8 hp8 => ?_⟩
    obtain ⟨cap, hcap⟩ : ∃ cap : Int, atI [PyData.int 0, PyData.int 400, PyData.int v7] v8 = some (.int cap) := by
      obtain rfl | rfl | rfl : v8 = 0 ∨ v8 = 1 ∨ v8 = 2 := by omega
      · exact ⟨_, rfl⟩
      · exact ⟨_, rfl⟩
      · exact ⟨_, rfl⟩
    refine ⟨_, _, _, _, rfl, rfl, hcap, ?_⟩
    refine ⟨lq rfl, fr0 rfl, ?_⟩
    refine xb_eq (Γ' := [.val (.list (dI cells)), .lst pl8, .val (.int (i : Nat)), .val (dF f), .val (.int (f.ms.length : Nat)), .val (.list (dI nm)), .val (.list (dI kd)), .val (.list (dI sd)), .val (dF (renF f nm kd ws)), .val (.int ca.wind), .val (.int ca.dir), .val (.tuple (dI ca.off)), .val (dK ca), .val (dK cb), .no, .val (.list (dI (outsF f ca))), .val (.list (dI (windsF f ca))), .val (.int cap), x18, x19, x20, x21, x22, x23, x24, x25, .no, .no, x28, .no, x30, x31]) (rfl) ?_
    refine xb_cons ?_
    refine xs_if ?_
    refine xt_eq false ?_ ?_
    · refine xt_not ?_
      refine xt_val ?_
      refine xe_call c_law_same (hr.mono (by decide)) ?_
      refine xa_cons ?_
      refine xe_m (xm_lst ?_)
      refine xa_cons ?_
      refine xe_call c_fair_losses (hr.mono (by decide)) ?_
      refine xa_cons ?_
      refine xe_var 8 rfl ?_
      refine xa_cons ?_
      refine xe_var 13 rfl ?_
      refine xa_cons ?_
      refine xe_var 17 rfl ?_
      refine xa_nil ?_
      refine ⟨_, _, _, rfl, hgo, ?_⟩
      refine xa_cons ?_
      refine xe_call c_gives (hr.mono (by decide)) ?_
      refine xa_cons ?_
      refine xe_var 8 rfl ?_
      refine xa_cons ?_
      refine xe_var 13 rfl ?_
      refine xa_cons ?_
      refine xe_var 17 rfl ?_
      refine xa_cons ?_
      refine xe_tup ?_
      refine xa_cons ?_
      refine xe_str ?_
      refine xa_cons ?_
      refine xe_str ?_
      refine xa_nil ?_
      refine ⟨by simp, ?_⟩
      refine xa_nil ?_
      refine ⟨_, _, _, ["cap", "wake"], rfl, hgo, ?_⟩
      refine xa_nil ?_
      refine ⟨by simp, ?_⟩
      refine xa_cons ?_
      refine xe_m (xm_lst ?_)
      refine xa_cons ?_
      refine xe_call c_fair_losses (hr.mono (by decide)) ?_
      refine xa_cons ?_
      refine xe_var 3 rfl ?_
      refine xa_cons ?_
      refine xe_var 12 rfl ?_
      refine xa_cons ?_
      refine xe_var 17 rfl ?_
      refine xa_nil ?_
      refine ⟨_, _, _, rfl, hfo, ?_⟩
      refine xa_cons ?_
      refine xe_call c_gives (hr.mono (by decide)) ?_
      refine xa_cons ?_
      refine xe_var 3 rfl ?_
      refine xa_cons ?_
      refine xe_var 12 rfl ?_
      refine xa_cons ?_
      refine xe_var 17 rfl ?_
      refine xa_cons ?_
      refine xe_tup ?_
      refine xa_cons ?_
      refine xe_str ?_
      refine xa_cons ?_
      refine xe_str ?_
      refine xa_nil ?_
      refine ⟨by simp, ?_⟩
      refine xa_nil ?_
      refine ⟨_, _, _, ["cap", "wake"], rfl, hfo, ?_⟩
      refine xa_nil ?_
      refine ⟨by simp, ?_⟩
      refine xa_nil ?_
      rw [R.fair, R.gives]
      refine ⟨_, rfl, pl_two (pl_prs (by show 3 ≤ 1000000; decide)) pl_int, ?_⟩
      refine ⟨_, rfl, ?_⟩
      exact ⟨rfl, rfl⟩
    refine ⟨fun hc => (nomatch hc), fun _ => xb_nil ?_⟩
    refine xb_cons ?_
    refine xs_par 18 19 rfl ?_ S.nd
    refine xa_cons ?_
    refine xe_callM 1 c_law_draw (hr.mono (by decide)) ?_
    refine xa_cons ?_
    refine xe_int ?_
    refine xa_nil ?_
    refine ⟨_, rfl, hp8, _, rfl, by decide, by decide, fun lo pl9 hv9 hw9 hp9 => ?_⟩
    refine xa_cons ?_
    refine xe_callM 1 c_law_draw (hr.mono (by decide)) ?_
    refine xa_cons ?_
    refine xe_int ?_
    refine xa_nil ?_
    refine ⟨_, rfl, hp9, _, rfl, by decide, by decide, fun stops pl10 hv10 hw10 hp10 => ?_⟩
    refine xa_nil ?_
    refine ⟨_, _, rfl, lq rfl, lq rfl, fr0 rfl, fr0 rfl, ?_⟩
    refine xb_eq (Γ' := [.val (.list (dI cells)), .lst pl10, .val (.int (i : Nat)), .val (dF f), .val (.int (f.ms.length : Nat)), .val (.list (dI nm)), .val (.list (dI kd)), .val (.list (dI sd)), .val (dF (renF f nm kd ws)), .val (.int ca.wind), .val (.int ca.dir), .val (.tuple (dI ca.off)), .val (dK ca), .val (dK cb), .no, .val (.list (dI (outsF f ca))), .val (.list (dI (windsF f ca))), .val (.int cap), .val (.int lo), .val (.int stops), x20, x21, x22, x23, x24, x25, .no, .no, x28, .no, x30, x31]) (rfl) ?_
    refine xb_cons ?_
    refine xs_asg 20 ?_ S.nd
    refine xe_add ?_
    refine xe_var 18 rfl ?_
    refine xe_callM 1 c_law_draw (hr.mono (by decide)) ?_
    refine xa_cons ?_
    refine xe_int ?_
    refine xa_nil ?_
    refine ⟨_, rfl, hp10, _, rfl, by decide, by decide, fun v11 pl11 hv11 hw11 hp11 => ?_⟩
    refine ⟨_, _, rfl, rfl, ?_⟩
    refine ⟨lq rfl, fr0 rfl, ?_⟩
    refine xb_eq (Γ' := [.val (.list (dI cells)), .lst pl11, .val (.int (i : Nat)), .val (dF f), .val (.int (f.ms.length : Nat)), .val (.list (dI nm)), .val (.list (dI kd)), .val (.list (dI sd)), .val (dF (renF f nm kd ws)), .val (.int ca.wind), .val (.int ca.dir), .val (.tuple (dI ca.off)), .val (dK ca), .val (dK cb), .no, .val (.list (dI (outsF f ca))), .val (.list (dI (windsF f ca))), .val (.int cap), .val (.int lo), .val (.int stops), .val (.int (lo + v11)), x21, x22, x23, x24, x25, .no, .no, x28, .no, x30, x31]) (rfl) ?_
    refine xb_cons ?_
    refine xs_if ?_
    refine xt_eq false ?_ ?_
    · refine xt_w ?_
      refine xw_or ?_
      refine xt_neI ?_
      refine xe_ix ?_
      refine xe_call c_worst_case (hr.mono (by decide)) ?_
      refine xa_cons ?_
      refine xe_var 8 rfl ?_
      refine xa_cons ?_
      refine xe_var 18 rfl ?_
      refine xa_cons ?_
      refine xe_var 20 rfl ?_
      refine xa_cons ?_
      refine xe_var 19 rfl ?_
      refine xa_nil ?_
      refine ⟨_, _, _, _, rfl, hgo, (by have := hg.m2; omega), by omega, by omega, by omega, by omega, fun cz => ?_⟩
      refine xe_int ?_
      refine ⟨_, _, _, _, rfl, rfl, rfl, ?_⟩
      refine xe_ix ?_
      refine xe_call c_worst_case (hr.mono (by decide)) ?_
      refine xa_cons ?_
      refine xe_var 3 rfl ?_
      refine xa_cons ?_
      refine xe_var 18 rfl ?_
      refine xa_cons ?_
      refine xe_var 20 rfl ?_
      refine xa_cons ?_
      refine xe_var 19 rfl ?_
      refine xa_nil ?_
      refine ⟨_, _, _, _, rfl, hfo, (by omega), by omega, by omega, by omega, by omega, fun cz => ?_⟩
      refine xe_int ?_
      refine ⟨_, _, _, _, rfl, rfl, rfl, ?_⟩
      refine ⟨_, _, rfl, rfl, ?_⟩
      rw [RB.worst, decide_eq_true (Eq.refl _)]
      refine ⟨fun hk => (nomatch hk), fun _ => ?_⟩
      refine xw_or1 ?_
      refine xt_neI ?_
      refine xe_ix ?_
      refine xe_call c_best_case (hr.mono (by decide)) ?_
      refine xa_cons ?_
      refine xe_var 8 rfl ?_
      refine xa_cons ?_
      refine xe_var 18 rfl ?_
      refine xa_cons ?_
      refine xe_var 20 rfl ?_
      refine xa_cons ?_
      refine xe_var 19 rfl ?_
      refine xa_nil ?_
      refine ⟨_, _, _, _, rfl, hgo, (by have := hg.m2; omega), by omega, by omega, by omega, by omega, fun cz => ?_⟩
      refine xe_int ?_
      refine ⟨_, _, _, _, rfl, rfl, rfl, ?_⟩
      refine xe_ix ?_
      refine xe_call c_best_case (hr.mono (by decide)) ?_
      refine xa_cons ?_
      refine xe_var 3 rfl ?_
      refine xa_cons ?_
      refine xe_var 18 rfl ?_
      refine xa_cons ?_
      refine xe_var 20 rfl ?_
      refine xa_cons ?_
      refine xe_var 19 rfl ?_
      refine xa_nil ?_
      refine ⟨_, _, _, _, rfl, hfo, (by omega), by omega, by omega, by omega, by omega, fun cz => ?_⟩
      refine xe_int ?_
      refine ⟨_, _, _, _, rfl, rfl, rfl, ?_⟩
      refine ⟨_, _, rfl, rfl, ?_⟩
      exact ⟨rfl, by rw [RB.best]; simp⟩
    refine ⟨fun hc => (nomatch hc), fun _ => xb_nil ?_⟩
    refine xb_cons ?_
    refine xs_asg 21 ?_ S.nd
    refine xe_callM 1 c_law_bounds (hr.mono (by decide)) ?_
    refine xa_cons ?_
    refine xe_int ?_
    refine xa_cons ?_
    refine xe_int ?_
    refine xa_nil ?_
    refine ⟨_, rfl, hp11, _, _, rfl, by decide, by decide, by decide, by decide, fun b step pl12 hb hp12 => ?_⟩
    refine ⟨lq rfl, fr0 rfl, ?_⟩
    have hbl := hb.len
    have hbr := bounds_rev hb
    have hbm := bounds_mir hb
    have hnl := narrowedF_len b step
    refine xb_eq (Γ' := [.val (.list (dI cells)), .lst pl12, .val (.int (i : Nat)), .val (dF f), .val (.int (f.ms.length : Nat)), .val (.list (dI nm)), .val (.list (dI kd)), .val (.list (dI sd)), .val (dF (renF f nm kd ws)), .val (.int ca.wind), .val (.int ca.dir), .val (.tuple (dI ca.off)), .val (dK ca), .val (dK cb), .no, .val (.list (dI (outsF f ca))), .val (.list (dI (windsF f ca))), .val (.int cap), .val (.int lo), .val (.int stops), .val (.int (lo + v11)), .val (dB b step), x22, x23, x24, x25, .no, .no, x28, .no, x30, x31]) (rfl) ?_
    refine xb_cons ?_
    refine xs_asgT [22, 23] ?_
    refine xe_var 21 rfl ?_
    refine xg_tup rfl ⟨_, rfl, rfl, ?_⟩
    refine xgs_nm 22 (lq rfl) (fr0 rfl) ?_ S.nd
    refine xgs_nm 23 (lq rfl) (fr0 rfl) ?_ S.nd
    refine xgs_nil ?_
    refine xb_eq (Γ' := [.val (.list (dI cells)), .lst pl12, .val (.int (i : Nat)), .val (dF f), .val (.int (f.ms.length : Nat)), .val (.list (dI nm)), .val (.list (dI kd)), .val (.list (dI sd)), .val (dF (renF f nm kd ws)), .val (.int ca.wind), .val (.int ca.dir), .val (.tuple (dI ca.off)), .val (dK ca), .val (dK cb), .no, .val (.list (dI (outsF f ca))), .val (.list (dI (windsF f ca))), .val (.int cap), .val (.int lo), .val (.int stops), .val (.int (lo + v11)), .val (dB b step), .val (.tuple (b.map dP)), .val (.int step), x24, x25, .no, .no, x28, .no, x30, x31]) (rfl) ?_
    refine xb_cons ?_
    refine xs_asg 24 ?_ S.nd
    refine xe_tup ?_
    refine xa_cons ?_
    refine xe_tupleOf T.tuple ?_
    refine xq_e ?_
    refine xe_m ?_
    refine xm_lc [("k", 14)] rfl S.nd (blkOk_by rfl) (fun _ h => nomatch h) (lc_pure ?_)
    refine xi_down T.range ?_
    refine xa_cons ?_
    refine xe_sub ?_
    refine xe_len T.len ?_
    refine xq_e ?_
    refine xe_var 22 rfl ?_
    refine ⟨_, _, rfl, ?_⟩
    rw [List.length_map]
    refine xe_int ?_
    refine ⟨_, _, rfl, rfl, ?_⟩
    refine xa_cons ?_
    refine xe_neg ?_
    refine xe_int ?_
    refine ⟨_, rfl, ?_⟩
    refine xa_cons ?_
    refine xe_neg ?_
    refine xe_int ?_
    refine ⟨_, rfl, ?_⟩
    refine xa_nil ?_
    refine ⟨_, _, rfl, by omega, by omega, by omega, by omega, ?_⟩
    refine ⟨by omega, fun _ => true, fun i => dP (b.reverse.getD i (0, 0)), fun i hi => ?_, ?_⟩
    · refine ⟨nomu, fun s1 H1 Ca cl fp C' hC => ?_⟩
      refine xg_name 14 (lq rfl) (fr0 hC) ?_ S.nd
      intro s1 H1 Ca cl fp
      refine xts_nil ?_
      refine ⟨fun hk => (nomatch hk), fun hk s1 H1 Ca cl fp => ?_⟩
      refine xe_ix ?_
      refine xe_var 22 rfl ?_
      refine xe_var 14 rfl ?_
      refine ⟨_, _, _, _, rfl, rfl, down_ix (b := b) (k := i) (by omega) (by omega), ?_⟩
      exact ⟨rfl, rfl, rfl⟩
    rw [rev_all (b := b) (by omega)]
    refine ⟨_, _, rfl, ?_⟩
    refine ⟨rfl, ?_⟩
    refine xa_cons ?_
    refine xe_var 23 rfl ?_
    refine xa_nil ?_
    refine ⟨by simp, ?_⟩
    refine ⟨lq rfl, fr0 rfl, ?_⟩
    refine xb_eq (Γ' := [.val (.list (dI cells)), .lst pl12, .val (.int (i : Nat)), .val (dF f), .val (.int (f.ms.length : Nat)), .val (.list (dI nm)), .val (.list (dI kd)), .val (.list (dI sd)), .val (dF (renF f nm kd ws)), .val (.int ca.wind), .val (.int ca.dir), .val (.tuple (dI ca.off)), .val (dK ca), .val (dK cb), .no, .val (.list (dI (outsF f ca))), .val (.list (dI (windsF f ca))), .val (.int cap), .val (.int lo), .val (.int stops), .val (.int (lo + v11)), .val (dB b step), .val (.tuple (b.map dP)), .val (.int step), .val (dB b.reverse step), x25, .no, .no, x28, .no, x30, x31]) (rfl) ?_
    refine xb_cons ?_
    refine xs_asg 25 ?_ S.nd
    refine xe_tup ?_
    refine xa_cons ?_
    refine xe_tupleOf T.tuple ?_
    refine xq_e ?_
    refine xe_m ?_
    refine xm_lc [("first", 26), ("last", 27)] rfl S.nd (blkOk_by rfl) (fun _ h => nomatch h) (lc_pure ?_)
    refine xi_seq ?_
    refine xe_var 22 rfl ?_
    refine ⟨_, _, rfl, ?_⟩
    rw [List.length_map]
    refine ⟨by omega, fun _ => true, fun i => dP (mir (b.getD i (0, 0))), fun i hi => ?_, ?_⟩
    · refine ⟨nomu, fun s1 H1 Ca cl fp C' hC => ?_⟩
      refine xg_eq (getD_mapD (0, 0) hi) ?_
      refine xg_tup rfl ⟨_, rfl, rfl, ?_⟩
      refine xgs_nm 26 (lq rfl) (fr0 hC) ?_ S.nd
      refine xgs_nm 27 (lq rfl) (fr0 hC) ?_ S.nd
      refine xgs_nil ?_
      intro s1 H1 Ca cl fp
      refine xts_nil ?_
      refine ⟨fun hk => (nomatch hk), fun hk s1 H1 Ca cl fp => ?_⟩
      refine xe_tup ?_
      refine xa_cons ?_
      refine xe_sub ?_
      refine xe_int ?_
      refine xe_var 27 rfl ?_
      refine ⟨_, _, rfl, rfl, ?_⟩
      refine xa_cons ?_
      refine xe_sub ?_
      refine xe_int ?_
      refine xe_var 26 rfl ?_
      refine ⟨_, _, rfl, rfl, ?_⟩
      refine xa_nil ?_
      refine ⟨by simp, ?_⟩
      exact ⟨rfl, rfl, rfl⟩
    rw [mir_all (b := b) rfl]
    refine ⟨_, _, rfl, ?_⟩
    refine ⟨rfl, ?_⟩
    refine xa_cons ?_
    refine xe_var 23 rfl ?_
    refine xa_nil ?_
    refine ⟨by simp, ?_⟩
    refine ⟨lq rfl, fr0 rfl, ?_⟩
    refine xb_eq (Γ' := [.val (.list (dI cells)), .lst pl12, .val (.int (i : Nat)), .val (dF f), .val (.int (f.ms.length : Nat)), .val (.list (dI nm)), .val (.list (dI kd)), .val (.list (dI sd)), .val (dF (renF f nm kd ws)), .val (.int ca.wind), .val (.int ca.dir), .val (.tuple (dI ca.off)), .val (dK ca), .val (dK cb), .no, .val (.list (dI (outsF f ca))), .val (.list (dI (windsF f ca))), .val (.int cap), .val (.int lo), .val (.int stops), .val (.int (lo + v11)), .val (dB b step), .val (.tuple (b.map dP)), .val (.int step), .val (dB b.reverse step), .val (dB (b.map mir) step), .no, .no, x28, .no, x30, x31]) (rfl) ?_
    obtain ⟨wd, w1, w2⟩ := pick (NoGap b step) ("weather" : Str) "gap"
    refine xb_cons ?_
    refine xs_asgLc 28 [("one", 29)] rfl S.nd (blkOk_by rfl) (fun _ h => nomatch h) (lc_pure ?_) (sw_true rfl rfl rfl (by decide +kernel))
    refine xi_seq ?_
    refine xe_tup ?_
    refine xa_cons ?_
    refine xe_var 21 rfl ?_
    refine xa_cons ?_
    refine xe_var 24 rfl ?_
    refine xa_cons ?_
    refine xe_var 25 rfl ?_
    refine xa_nil ?_
    refine ⟨by simp, ?_⟩
    refine ⟨_, _, rfl, ?_⟩
    refine ⟨by show 3 ≤ 1000000; decide, fun _ => true, fun _ => .str wd, fun i hi => ?_, ?_⟩
    · obtain ⟨bi, ei, hbi, i1, i2⟩ := three_of hb w1 w2 (i := i) hi
      refine ⟨nomu, fun s1 H1 Ca cl fp C' hC => ?_⟩
      refine xg_eq ei ?_
      refine xg_name 29 (lq rfl) (fr0 hC) ?_ S.nd
      intro s1 H1 Ca cl fp
      refine xts_nil ?_
      refine ⟨fun hk => (nomatch hk), fun hk s1 H1 Ca cl fp => ?_⟩
      refine xe_ix ?_
      refine xe_call c_weather_paper (hr.mono (by decide)) ?_
      refine xa_cons ?_
      refine xe_var 29 rfl ?_
      refine xa_nil ?_
      refine paper_of hbi i1 i2 fun x t => ?_
      refine xe_int ?_
      refine ⟨_, _, _, _, rfl, rfl, atN (i := 0) rfl rfl, ?_⟩
      exact ⟨rfl, rfl, rfl⟩
    refine ⟨lq rfl, fr0 rfl, ?_⟩
    refine xb_eq (Γ' := [.val (.list (dI cells)), .lst pl12, .val (.int (i : Nat)), .val (dF f), .val (.int (f.ms.length : Nat)), .val (.list (dI nm)), .val (.list (dI kd)), .val (.list (dI sd)), .val (dF (renF f nm kd ws)), .val (.int ca.wind), .val (.int ca.dir), .val (.tuple (dI ca.off)), .val (dK ca), .val (dK cb), .no, .val (.list (dI (outsF f ca))), .val (.list (dI (windsF f ca))), .val (.int cap), .val (.int lo), .val (.int stops), .val (.int (lo + v11)), .val (dB b step), .val (.tuple (b.map dP)), .val (.int step), .val (dB b.reverse step), .val (dB (b.map mir) step), .no, .no, .val (.list [.str wd, .str wd, .str wd]), .no, x30, x31]) (rfl) ?_
    refine xb_cons ?_
    refine xs_if ?_
    refine xt_eq false ?_ ?_
    · refine xt_w ?_
      refine xw_or ?_
      refine xt_neD hr.units ?_
      refine xe_var 28 rfl ?_
      refine xe_m (xm_rep (by decide) (by decide) (xm_lst ?_))
      refine xa_cons ?_
      refine xe_ix ?_
      refine xe_var 28 rfl ?_
      refine xe_int ?_
      refine ⟨_, _, _, _, rfl, rfl, rfl, ?_⟩
      refine xa_nil ?_
      refine ⟨by simp, by simp, ?_⟩
      refine ⟨words_ok w1 w2, words_ok w1 w2, ?_⟩
      refine (fun (z : PyData.eqv (.list [.str wd, .str wd, .str wd]) (.list [.str wd, .str wd, .str wd]) = true) => ?_) (words_eq wd)
      have z2 : PyData.eqv (.list [.str wd, .str wd, .str wd]) (.list (List.replicate (3 : Int).toNat [PyData.str wd]).flatten) = true := z
      rw [z2]
      refine ⟨fun hk => (nomatch hk), fun _ => ?_⟩
      refine xw_or1 ?_
      refine xt_neD hr.units ?_
      refine xe_m (xm_lst ?_)
      refine xa_cons ?_
      refine xe_call c_weathers (hr.mono (by decide)) ?_
      refine xa_cons ?_
      refine xe_var 24 rfl ?_
      refine xa_nil ?_
      refine ⟨_, _, rfl, hbr, ?_⟩
      refine xa_cons ?_
      refine xe_call c_weathers (hr.mono (by decide)) ?_
      refine xa_cons ?_
      refine xe_var 25 rfl ?_
      refine xa_nil ?_
      refine ⟨_, _, rfl, hbm, ?_⟩
      refine xa_nil ?_
      refine ⟨by simp, ?_⟩
      refine xe_m (xm_lst ?_)
      refine xa_cons ?_
      refine xe_call c_weathers (hr.mono (by decide)) ?_
      refine xa_cons ?_
      refine xe_var 21 rfl ?_
      refine xa_nil ?_
      refine ⟨_, _, rfl, hb, ?_⟩
      refine xa_cons ?_
      refine xe_call c_weathers (hr.mono (by decide)) ?_
      refine xa_cons ?_
      refine xe_var 21 rfl ?_
      refine xa_nil ?_
      refine ⟨_, _, rfl, hb, ?_⟩
      refine xa_nil ?_
      refine ⟨by simp, ?_⟩
      rw [weathers_rev hb, weathers_mir hb]
      refine ⟨ints_ok _ _, ints_ok _ _, ?_⟩
      exact ⟨rfl, by rw [ints_eq]; rfl⟩
    refine ⟨fun hc => (nomatch hc), fun _ => xb_nil ?_⟩
    obtain ⟨nd, n1, n2⟩ := pick (NoGap b step) (PyData.tuple ((narrowedF b step).map dP)) .none
    obtain ⟨da, a1, a2⟩ := pick (NoGap b step) (PyData.tuple ((narrowedF b step).reverse.map dP)) .none
    obtain ⟨db, b1, b2⟩ := pick (NoGap b step) (PyData.tuple (((narrowedF b step).map mir).map dP)) .none
    refine xb_cons ?_
    refine xs_asg 30 ?_ S.nd
    refine xe_call c_law_told_or_none (hr.mono (by decide)) ?_
    refine xa_cons ?_
    refine xe_str ?_
    refine xa_cons ?_
    refine xe_var 3 rfl ?_
    refine xa_cons ?_
    refine xe_var 21 rfl ?_
    refine xa_cons ?_
    refine xe_int ?_
    refine xa_nil ?_
    refine told_nar hfo (by omega) hb (by decide) n1 n2 ?_
    refine ⟨lq rfl, fr0 rfl, ?_⟩
    refine xb_eq (Γ' := [.val (.list (dI cells)), .lst pl12, .val (.int (i : Nat)), .val (dF f), .val (.int (f.ms.length : Nat)), .val (.list (dI nm)), .val (.list (dI kd)), .val (.list (dI sd)), .val (dF (renF f nm kd ws)), .val (.int ca.wind), .val (.int ca.dir), .val (.tuple (dI ca.off)), .val (dK ca), .val (dK cb), .no, .val (.list (dI (outsF f ca))), .val (.list (dI (windsF f ca))), .val (.int cap), .val (.int lo), .val (.int stops), .val (.int (lo + v11)), .val (dB b step), .val (.tuple (b.map dP)), .val (.int step), .val (dB b.reverse step), .val (dB (b.map mir) step), .no, .no, .val (.list [.str wd, .str wd, .str wd]), .no, .val nd, x31]) (rfl) ?_
    refine xb_cons ?_
    refine xs_asg 31 ?_ S.nd
    refine xe_m (xm_lst ?_)
    refine xa_cons ?_
    refine xe_none ?_
    refine xa_cons ?_
    refine xe_none ?_
    refine xa_nil ?_
    refine ⟨by simp, ?_⟩
    refine ⟨lq rfl, fr0 rfl, ?_⟩
    refine xb_eq (Γ' := [.val (.list (dI cells)), .lst pl12, .val (.int (i : Nat)), .val (dF f), .val (.int (f.ms.length : Nat)), .val (.list (dI nm)), .val (.list (dI kd)), .val (.list (dI sd)), .val (dF (renF f nm kd ws)), .val (.int ca.wind), .val (.int ca.dir), .val (.tuple (dI ca.off)), .val (dK ca), .val (dK cb), .no, .val (.list (dI (outsF f ca))), .val (.list (dI (windsF f ca))), .val (.int cap), .val (.int lo), .val (.int stops), .val (.int (lo + v11)), .val (dB b step), .val (.tuple (b.map dP)), .val (.int step), .val (dB b.reverse step), .val (dB (b.map mir) step), .no, .no, .val (.list [.str wd, .str wd, .str wd]), .no, .val nd, .val (.list [.none, .none])]) (rfl) ?_
    refine xb_cut (fun Γ1 => Γ1 = [.val (.list (dI cells)), .lst pl12, .val (.int (i : Nat)), .val (dF f), .val (.int (f.ms.length : Nat)), .val (.list (dI nm)), .val (.list (dI kd)), .val (.list (dI sd)), .val (dF (renF f nm kd ws)), .val (.int ca.wind), .val (.int ca.dir), .val (.tuple (dI ca.off)), .val (dK ca), .val (dK cb), .no, .val (.list (dI (outsF f ca))), .val (.list (dI (windsF f ca))), .val (.int cap), .val (.int lo), .val (.int stops), .val (.int (lo + v11)), .val (dB b step), .val (.tuple (b.map dP)), .val (.int step), .val (dB b.reverse step), .val (dB (b.map mir) step), .no, .no, .val (.list [.str wd, .str wd, .str wd]), .no, .val nd, .val (.list [da, db])]) ?_ ?_
    · by_cases hng : NoGap b step
      · have e1 := n1 hng
        have e2 := a1 hng
        have e3 := b1 hng
        subst e1 e2 e3
        refine xs_if ?_
        refine xt_notN ?_
        refine xe_var 30 rfl ?_
        refine ⟨fun _ => ?_, fun hk => (nomatch hk)⟩
        refine xb_one ?_
        refine xs_asg 31 ?_ S.nd
        refine xe_m (xm_lst ?_)
        refine xa_cons ?_
        refine xe_tupleOf T.tuple ?_
        refine xq_e ?_
        refine xe_m ?_
        refine xm_lc [("k", 14)] rfl S.nd (blkOk_by rfl) (fun _ h => nomatch h) (lc_pure ?_)
        refine xi_down T.range ?_
        refine xa_cons ?_
        refine xe_sub ?_
        refine xe_len T.len ?_
        refine xq_e ?_
        refine xe_var 30 rfl ?_
        refine ⟨_, _, rfl, ?_⟩
        rw [List.length_map]
        refine xe_int ?_
        refine ⟨_, _, rfl, rfl, ?_⟩
        refine xa_cons ?_
        refine xe_neg ?_
        refine xe_int ?_
        refine ⟨_, rfl, ?_⟩
        refine xa_cons ?_
        refine xe_neg ?_
        refine xe_int ?_
        refine ⟨_, rfl, ?_⟩
        refine xa_nil ?_
        refine ⟨_, _, rfl, by omega, by omega, by omega, by omega, ?_⟩
        refine ⟨by omega, fun _ => true, fun i => dP ((narrowedF b step).reverse.getD i (0, 0)), fun i hi => ?_, ?_⟩
        · refine ⟨nomu, fun s1 H1 Ca cl fp C' hC => ?_⟩
          refine xg_name 14 (lq rfl) (fr0 hC) ?_ S.nd
          intro s1 H1 Ca cl fp
          refine xts_nil ?_
          refine ⟨fun hk => (nomatch hk), fun hk s1 H1 Ca cl fp => ?_⟩
          refine xe_ix ?_
          refine xe_var 30 rfl ?_
          refine xe_var 14 rfl ?_
          refine ⟨_, _, _, _, rfl, rfl, down_ix (b := (narrowedF b step)) (k := i) (by omega) (by omega), ?_⟩
          exact ⟨rfl, rfl, rfl⟩
        rw [rev_all (b := (narrowedF b step)) (by omega)]
        refine ⟨_, _, rfl, ?_⟩
        refine ⟨rfl, ?_⟩
        refine xa_cons ?_
        refine xe_tupleOf T.tuple ?_
        refine xq_e ?_
        refine xe_m ?_
        refine xm_lc [("first", 26), ("last", 27)] rfl S.nd (blkOk_by rfl) (fun _ h => nomatch h) (lc_pure ?_)
        refine xi_seq ?_
        refine xe_var 30 rfl ?_
        refine ⟨_, _, rfl, ?_⟩
        rw [List.length_map]
        refine ⟨by omega, fun _ => true, fun i => dP (mir ((narrowedF b step).getD i (0, 0))), fun i hi => ?_, ?_⟩
        · refine ⟨nomu, fun s1 H1 Ca cl fp C' hC => ?_⟩
          refine xg_eq (getD_mapD (0, 0) hi) ?_
          refine xg_tup rfl ⟨_, rfl, rfl, ?_⟩
          refine xgs_nm 26 (lq rfl) (fr0 hC) ?_ S.nd
          refine xgs_nm 27 (lq rfl) (fr0 hC) ?_ S.nd
          refine xgs_nil ?_
          intro s1 H1 Ca cl fp
          refine xts_nil ?_
          refine ⟨fun hk => (nomatch hk), fun hk s1 H1 Ca cl fp => ?_⟩
          refine xe_tup ?_
          refine xa_cons ?_
          refine xe_sub ?_
          refine xe_int ?_
          refine xe_var 27 rfl ?_
          refine ⟨_, _, rfl, rfl, ?_⟩
          refine xa_cons ?_
          refine xe_sub ?_
          refine xe_int ?_
          refine xe_var 26 rfl ?_
          refine ⟨_, _, rfl, rfl, ?_⟩
          refine xa_nil ?_
          refine ⟨by simp, ?_⟩
          exact ⟨rfl, rfl, rfl⟩
        rw [mir_all (b := (narrowedF b step)) rfl]
        refine ⟨_, _, rfl, ?_⟩
        refine ⟨rfl, ?_⟩
        refine xa_nil ?_
        refine ⟨by simp, ?_⟩
        refine ⟨lq rfl, fr0 rfl, ?_⟩
        rfl
      · have e1 := n2 hng
        have e2 := a2 hng
        have e3 := b2 hng
        subst e1 e2 e3
        refine xs_if ?_
        refine xt_notN ?_
        refine xe_var 30 rfl ?_
        refine ⟨fun hk => (nomatch hk), fun _ => ?_⟩
        refine xb_nil ?_
        rfl
    rintro Γ1 rfl
    refine xb_cons ?_
    refine xs_if ?_
    refine xt_eq false ?_ ?_
    · refine xt_not ?_
      refine xt_val ?_
      refine xe_call c_law_same (hr.mono (by decide)) ?_
      refine xa_cons ?_
      refine xe_m (xm_lst ?_)
      refine xa_cons ?_
      refine xe_call c_law_told_or_none (hr.mono (by decide)) ?_
      refine xa_cons ?_
      refine xe_str ?_
      refine xa_cons ?_
      refine xe_var 3 rfl ?_
      refine xa_cons ?_
      refine xe_var 24 rfl ?_
      refine xa_cons ?_
      refine xe_int ?_
      refine xa_nil ?_
      refine told_nar (nd := da) hfo (by omega) hbr (by decide) (fun h => by rw [narrowed_rev hb.st.1]; exact a1 (nogap_rev.mp h)) (fun h => a2 fun g => h (nogap_rev.mpr g)) ?_
      refine xa_cons ?_
      refine xe_call c_law_told_or_none (hr.mono (by decide)) ?_
      refine xa_cons ?_
      refine xe_str ?_
      refine xa_cons ?_
      refine xe_var 3 rfl ?_
      refine xa_cons ?_
      refine xe_var 25 rfl ?_
      refine xa_cons ?_
      refine xe_int ?_
      refine xa_nil ?_
      refine told_nar (nd := db) hfo (by omega) hbm (by decide) (fun h => by rw [narrowed_mir]; exact b1 (nogap_mir.mp h)) (fun h => b2 fun g => h (nogap_mir.mpr g)) ?_
      refine xa_nil ?_
      refine ⟨by simp, ?_⟩
      refine xa_cons ?_
      refine xe_var 31 rfl ?_
      refine xa_nil ?_
      refine ⟨_, rfl, pl_two (pl_pick (pl_prT (by rw [List.length_reverse]; omega)) a1 a2) (pl_pick (pl_prT (by rw [List.length_map]; omega)) b1 b2), ?_⟩
      refine ⟨_, rfl, ?_⟩
      exact ⟨rfl, rfl⟩
    refine ⟨fun hc => (nomatch hc), fun _ => xb_nil ?_⟩
    obtain ⟨sdn, s1, s2⟩ := pick (NoGap b step) (PyData.list (dI ((narrowedF b step).map fun p => worstF f p.1 p.2 1))) .none
    have ew : ((narrowedF b step).map fun p => worstF (renF f nm kd ws) p.1 p.2 1) = (narrowedF b step).map fun p => worstF f p.1 p.2 1 := List.map_congr_left fun p _ => RB.worst p.1 p.2 1
    refine xb_one ?_
    refine xs_if ?_
    refine xt_eq false ?_ ?_
    · refine xt_not ?_
      refine xt_val ?_
      refine xe_call c_law_same (hr.mono (by decide)) ?_
      refine xa_cons ?_
      refine xe_call c_law_told_or_none (hr.mono (by decide)) ?_
      refine xa_cons ?_
      refine xe_str ?_
      refine xa_cons ?_
      refine xe_var 8 rfl ?_
      refine xa_cons ?_
      refine xe_var 21 rfl ?_
      refine xa_cons ?_
      refine xe_int ?_
      refine xa_nil ?_
      refine told_sure (nd := sdn) hgo (by have := hg.m2; omega) hb (by decide) (fun h => by rw [ew]; exact s1 h) s2 ?_
      refine xa_cons ?_
      refine xe_call c_law_told_or_none (hr.mono (by decide)) ?_
      refine xa_cons ?_
      refine xe_str ?_
      refine xa_cons ?_
      refine xe_var 3 rfl ?_
      refine xa_cons ?_
      refine xe_var 21 rfl ?_
      refine xa_cons ?_
      refine xe_int ?_
      refine xa_nil ?_
      refine told_sure (nd := sdn) hfo (by omega) hb (by decide) s1 s2 ?_
      refine xa_nil ?_
      refine ⟨_, rfl, pl_pick (pl_ints (by rw [List.length_map]; omega)) s1 s2, ?_⟩
      refine ⟨_, rfl, ?_⟩
      exact ⟨rfl, rfl⟩
    refine ⟨fun hc => (nomatch hc), fun _ => xb_nil ?_⟩
    exact ⟨pl12, _, _, _, _, _, _, _, _, _, _, _, _, _, _, _, _, _, _, _, _, _, _, _, _, _, _, rfl, hp12⟩
  obtain ⟨pl, x2, x3, x4, x5, x6, x7, x8, x9, x10, x11, x12, x13, x15, x16, x17, x18, x19, x20, x21, x22, x23, x24, x25, x28, x30, x31, rfl, hp⟩ := hP
  refine xb_one ?_
  refine xs_ret ?_
  refine xe_bool ?_
  exact hq
end W99
end

section
namespace W99
open PySem L2 Gh
theorem exm_self {K : PySem.W.Frag} {S : Addr} (h1 : PySem.W.subIn K (.ref S) (.type "BaseException") = some true) (h2 : PySem.W.isClsIn K S = true) (h3 : PySem.W.typeIn K (.ref S) = some (.type "type")) (h4 : PySem.W.subIn K (.ref S) (.ref S) = some true) :
    PySem.W.exmOne K (.ref S) (.ref S) = some true := by
  have e1 : (PySem.W.subIn K (.ref S) (.type "BaseException") == some true) = true := by rw [h1] <;> rfl
  have e2 : ((PySem.W.clsIn K S).isSome && PySem.W.typeIn K (.ref S) == some (.type "type")) = true := by
    have h2' : (PySem.W.clsIn K S).isSome = true := h2
    rw [h2', h3] <;> rfl
  show (if (PySem.W.subIn K (.ref S) (.type "BaseException") == some true) = true then (if ((PySem.W.clsIn K S).isSome && PySem.W.typeIn K (.ref S) == some (.type "type")) = true then PySem.W.subIn K (.ref S) (.ref S) else none) else none) = some true
  rw [if_pos e1, if_pos e2]
  exact h4
theorem all_mk {P : Program} {w : World} {K : PySem.W.Frag} {h : Heap} {mg : Str → Option Value} {fa CC CF f0 f1 f2 f3 f4 f5 f6 f7 f8 f9 f10 f11 f12 f13 f14 f15 f16 f17 f18 f19 f20 f21 f22 f23 f24 f25 f26 f27 f28 f29 f30 f31 f32 f33 f34 : Addr} (X : K.In h) (G : h.Ns mainGlobals mg) (hfa : mg "law" = some (.ref fa))
    {odC od0 an0 od1 an1 od2 an2 od3 an3 od4 an4 od5 an5 od6 an6 od7 an7 od8 an8 od9 an9 od10 an10 od11 an11 od12 an12 od13 an13 od14 an14 od15 an15 od16 an16 od17 an17 od18 an18 od19 an19 od20 an20 od21 an21 od22 an22 od23 an23 od24 an24 od25 an25 od26 an26 od27 an27 od28 an28 od29 an29 od30 an30 od31 an31 od32 an32 od33 an33 od34 an34 : Option Addr} {slC sl0 sl1 sl2 sl3 sl4 sl5 sl6 sl7 sl8 sl9 sl10 sl11 sl12 sl13 sl14 sl15 sl16 sl17 sl18 sl19 sl20 sl21 sl22 sl23 sl24 sl25 sl26 sl27 sl28 sl29 sl30 sl31 sl32 sl33 sl34 : Array (Option Value)} {tD tC1 tC2 tC3 : Tok} {nC : Nat}
    {oc0 kV0 dc0 pm0 cd0 ct0 oc1 kV1 dc1 pm1 cd1 ct1 oc2 kV2 dc2 pm2 cd2 ct2 oc3 kV3 dc3 pm3 cd3 ct3 oc4 kV4 dc4 pm4 cd4 ct4 oc5 kV5 dc5 pm5 cd5 ct5 oc6 kV6 dc6 pm6 cd6 ct6 oc7 kV7 dc7 pm7 cd7 ct7 oc8 kV8 dc8 pm8 cd8 ct8 oc9 kV9 dc9 pm9 cd9 ct9 oc10 kV10 dc10 pm10 cd10 ct10 oc11 kV11 dc11 pm11 cd11 ct11 oc12 kV12 dc12 pm12 cd12 ct12 oc13 kV13 dc13 pm13 cd13 ct13 oc14 kV14 dc14 pm14 cd14 ct14 oc15 kV15 dc15 pm15 cd15 ct15 oc16 kV16 dc16 pm16 cd16 ct16 oc17 kV17 dc17 pm17 cd17 ct17 oc18 kV18 dc18 pm18 cd18 ct18 oc19 kV19 dc19 pm19 cd19 ct19 oc20 kV20 dc20 pm20 cd20 ct20 oc21 kV21 dc21 pm21 cd21 ct21 oc22 kV22 dc22 pm22 cd22 ct22 oc23 kV23 dc23 pm23 cd23 ct23 oc24 kV24 dc24 pm24 cd24 ct24 oc25 kV25 dc25 pm25 cd25 ct25 oc26 kV26 dc26 pm26 cd26 ct26 oc27 kV27 dc27 pm27 cd27 ct27 oc28 kV28 dc28 pm28 cd28 ct28 oc29 kV29 dc29 pm29 cd29 ct29 oc30 kV30 dc30 pm30 cd30 ct30 oc31 kV31 dc31 pm31 cd31 ct31 oc32 kV32 dc32 pm32 cd32 ct32 oc33 kV33 dc33 pm33 cd33 ct33 oc34 kV34 dc34 pm34 cd34 ct34 : Value}
    (a0 : PySem.W.nsIn K mainGlobals "subsets" = some (some (.ref f0)))
    (l0 : K.lookup f0 = some ⟨oc0, od0, .func (PySem.W.fnOf "subsets" "subsets" (defArgs s_subsets) (defBody s_subsets) (defScope s_subsets) .none kV0 dc0 pm0 an0 cd0 ct0), sl0⟩)
    (c0 : PySem.W.codeIn K cd0 "subsets" = true)
    (k0 : PySem.W.keepIn K (.ref f0) = true)
    (a1 : PySem.W.nsIn K mainGlobals "power" = some (some (.ref f1)))
    (l1 : K.lookup f1 = some ⟨oc1, od1, .func (PySem.W.fnOf "power" "power" (defArgs s_power) (defBody s_power) (defScope s_power) .none kV1 dc1 pm1 an1 cd1 ct1), sl1⟩)
    (c1 : PySem.W.codeIn K cd1 "power" = true)
    (k1 : PySem.W.keepIn K (.ref f1) = true)
    (a2 : PySem.W.nsIn K mainGlobals "is_gap" = some (some (.ref f2)))
    (l2 : K.lookup f2 = some ⟨oc2, od2, .func (PySem.W.fnOf "is_gap" "is_gap" (defArgs s_is_gap) (defBody s_is_gap) (defScope s_is_gap) .none kV2 dc2 pm2 an2 cd2 ct2), sl2⟩)
    (c2 : PySem.W.codeIn K cd2 "is_gap" = true)
    (k2 : PySem.W.keepIn K (.ref f2) = true)
    (a3 : PySem.W.nsIn K mainGlobals "first_gap" = some (some (.ref f3)))
    (l3 : K.lookup f3 = some ⟨oc3, od3, .func (PySem.W.fnOf "first_gap" "first_gap" (defArgs s_first_gap) (defBody s_first_gap) (defScope s_first_gap) .none kV3 dc3 pm3 an3 cd3 ct3), sl3⟩)
    (c3 : PySem.W.codeIn K cd3 "first_gap" = true)
    (k3 : PySem.W.keepIn K (.ref f3) = true)
    (a4 : PySem.W.nsIn K mainGlobals "swept" = some (some (.ref f4)))
    (l4 : K.lookup f4 = some ⟨oc4, od4, .func (PySem.W.fnOf "swept" "swept" (defArgs s_swept) (defBody s_swept) (defScope s_swept) .none kV4 dc4 pm4 an4 cd4 ct4), sl4⟩)
    (c4 : PySem.W.codeIn K cd4 "swept" = true)
    (k4 : PySem.W.keepIn K (.ref f4) = true)
    (a5 : PySem.W.nsIn K mainGlobals "narrowed" = some (some (.ref f5)))
    (l5 : K.lookup f5 = some ⟨oc5, od5, .func (PySem.W.fnOf "narrowed" "narrowed" (defArgs s_narrowed) (defBody s_narrowed) (defScope s_narrowed) .none kV5 dc5 pm5 an5 cd5 ct5), sl5⟩)
    (c5 : PySem.W.codeIn K cd5 "narrowed" = true)
    (k5 : PySem.W.keepIn K (.ref f5) = true)
    (a6 : PySem.W.nsIn K mainGlobals "first_weather" = some (some (.ref f6)))
    (l6 : K.lookup f6 = some ⟨oc6, od6, .func (PySem.W.fnOf "first_weather" "first_weather" (defArgs s_first_weather) (defBody s_first_weather) (defScope s_first_weather) .none kV6 dc6 pm6 an6 cd6 ct6), sl6⟩)
    (c6 : PySem.W.codeIn K cd6 "first_weather" = true)
    (k6 : PySem.W.keepIn K (.ref f6) = true)
    (a7 : PySem.W.nsIn K mainGlobals "weather_paper" = some (some (.ref f7)))
    (l7 : K.lookup f7 = some ⟨oc7, od7, .func (PySem.W.fnOf "weather_paper" "weather_paper" (defArgs s_weather_paper) (defBody s_weather_paper) (defScope s_weather_paper) .none kV7 dc7 pm7 an7 cd7 ct7), sl7⟩)
    (c7 : PySem.W.codeIn K cd7 "weather_paper" = true)
    (k7 : PySem.W.keepIn K (.ref f7) = true)
    (a8 : PySem.W.nsIn K mainGlobals "weathers" = some (some (.ref f8)))
    (l8 : K.lookup f8 = some ⟨oc8, od8, .func (PySem.W.fnOf "weathers" "weathers" (defArgs s_weathers) (defBody s_weathers) (defScope s_weathers) .none kV8 dc8 pm8 an8 cd8 ct8), sl8⟩)
    (c8 : PySem.W.codeIn K cd8 "weathers" = true)
    (k8 : PySem.W.keepIn K (.ref f8) = true)
    (a9 : PySem.W.nsIn K mainGlobals "taken" = some (some (.ref f9)))
    (l9 : K.lookup f9 = some ⟨oc9, od9, .func (PySem.W.fnOf "taken" "taken" (defArgs s_taken) (defBody s_taken) (defScope s_taken) .none kV9 dc9 pm9 an9 cd9 ct9), sl9⟩)
    (c9 : PySem.W.codeIn K cd9 "taken" = true)
    (k9 : PySem.W.keepIn K (.ref f9) = true)
    (a10 : PySem.W.nsIn K mainGlobals "winds_at" = some (some (.ref f10)))
    (l10 : K.lookup f10 = some ⟨oc10, od10, .func (PySem.W.fnOf "winds_at" "winds_at" (defArgs s_winds_at) (defBody s_winds_at) (defScope s_winds_at) .none kV10 dc10 pm10 an10 cd10 ct10), sl10⟩)
    (c10 : PySem.W.codeIn K cd10 "winds_at" = true)
    (k10 : PySem.W.keepIn K (.ref f10) = true)
    (a11 : PySem.W.nsIn K mainGlobals "outputs" = some (some (.ref f11)))
    (l11 : K.lookup f11 = some ⟨oc11, od11, .func (PySem.W.fnOf "outputs" "outputs" (defArgs s_outputs) (defBody s_outputs) (defScope s_outputs) .none kV11 dc11 pm11 an11 cd11 ct11), sl11⟩)
    (c11 : PySem.W.codeIn K cd11 "outputs" = true)
    (k11 : PySem.W.keepIn K (.ref f11) = true)
    (a12 : PySem.W.nsIn K mainGlobals "output" = some (some (.ref f12)))
    (l12 : K.lookup f12 = some ⟨oc12, od12, .func (PySem.W.fnOf "output" "output" (defArgs s_output) (defBody s_output) (defScope s_output) .none kV12 dc12 pm12 an12 cd12 ct12), sl12⟩)
    (c12 : PySem.W.codeIn K cd12 "output" = true)
    (k12 : PySem.W.keepIn K (.ref f12) = true)
    (a13 : PySem.W.nsIn K mainGlobals "cases" = some (some (.ref f13)))
    (l13 : K.lookup f13 = some ⟨oc13, od13, .func (PySem.W.fnOf "cases" "cases" (defArgs s_cases) (defBody s_cases) (defScope s_cases) .none kV13 dc13 pm13 an13 cd13 ct13), sl13⟩)
    (c13 : PySem.W.codeIn K cd13 "cases" = true)
    (k13 : PySem.W.keepIn K (.ref f13) = true)
    (a14 : PySem.W.nsIn K mainGlobals "worst_case" = some (some (.ref f14)))
    (l14 : K.lookup f14 = some ⟨oc14, od14, .func (PySem.W.fnOf "worst_case" "worst_case" (defArgs s_worst_case) (defBody s_worst_case) (defScope s_worst_case) .none kV14 dc14 pm14 an14 cd14 ct14), sl14⟩)
    (c14 : PySem.W.codeIn K cd14 "worst_case" = true)
    (k14 : PySem.W.keepIn K (.ref f14) = true)
    (a15 : PySem.W.nsIn K mainGlobals "best_case" = some (some (.ref f15)))
    (l15 : K.lookup f15 = some ⟨oc15, od15, .func (PySem.W.fnOf "best_case" "best_case" (defArgs s_best_case) (defBody s_best_case) (defScope s_best_case) .none kV15 dc15 pm15 an15 cd15 ct15), sl15⟩)
    (c15 : PySem.W.codeIn K cd15 "best_case" = true)
    (k15 : PySem.W.keepIn K (.ref f15) = true)
    (a16 : PySem.W.nsIn K mainGlobals "sure_outputs" = some (some (.ref f16)))
    (l16 : K.lookup f16 = some ⟨oc16, od16, .func (PySem.W.fnOf "sure_outputs" "sure_outputs" (defArgs s_sure_outputs) (defBody s_sure_outputs) (defScope s_sure_outputs) .none kV16 dc16 pm16 an16 cd16 ct16), sl16⟩)
    (c16 : PySem.W.codeIn K cd16 "sure_outputs" = true)
    (k16 : PySem.W.keepIn K (.ref f16) = true)
    (a17 : PySem.W.nsIn K mainGlobals "divisor" = some (some (.ref f17)))
    (l17 : K.lookup f17 = some ⟨oc17, od17, .func (PySem.W.fnOf "divisor" "divisor" (defArgs s_divisor) (defBody s_divisor) (defScope s_divisor) .none kV17 dc17 pm17 an17 cd17 ct17), sl17⟩)
    (c17 : PySem.W.codeIn K cd17 "divisor" = true)
    (k17 : PySem.W.keepIn K (.ref f17) = true)
    (a18 : PySem.W.nsIn K mainGlobals "fraction" = some (some (.ref f18)))
    (l18 : K.lookup f18 = some ⟨oc18, od18, .func (PySem.W.fnOf "fraction" "fraction" (defArgs s_fraction) (defBody s_fraction) (defScope s_fraction) .none kV18 dc18 pm18 an18 cd18 ct18), sl18⟩)
    (c18 : PySem.W.codeIn K cd18 "fraction" = true)
    (k18 : PySem.W.keepIn K (.ref f18) = true)
    (a19 : PySem.W.nsIn K mainGlobals "gives" = some (some (.ref f19)))
    (l19 : K.lookup f19 = some ⟨oc19, od19, .func (PySem.W.fnOf "gives" "gives" (defArgs s_gives) (defBody s_gives) (defScope s_gives) .none kV19 dc19 pm19 an19 cd19 ct19), sl19⟩)
    (c19 : PySem.W.codeIn K cd19 "gives" = true)
    (k19 : PySem.W.keepIn K (.ref f19) = true)
    (a20 : PySem.W.nsIn K mainGlobals "lost_in_order" = some (some (.ref f20)))
    (l20 : K.lookup f20 = some ⟨oc20, od20, .func (PySem.W.fnOf "lost_in_order" "lost_in_order" (defArgs s_lost_in_order) (defBody s_lost_in_order) (defScope s_lost_in_order) .none kV20 dc20 pm20 an20 cd20 ct20), sl20⟩)
    (c20 : PySem.W.codeIn K cd20 "lost_in_order" = true)
    (k20 : PySem.W.keepIn K (.ref f20) = true)
    (a21 : PySem.W.nsIn K mainGlobals "orders" = some (some (.ref f21)))
    (l21 : K.lookup f21 = some ⟨oc21, od21, .func (PySem.W.fnOf "orders" "orders" (defArgs s_orders) (defBody s_orders) (defScope s_orders) .none kV21 dc21 pm21 an21 cd21 ct21), sl21⟩)
    (c21 : PySem.W.codeIn K cd21 "orders" = true)
    (k21 : PySem.W.keepIn K (.ref f21) = true)
    (a22 : PySem.W.nsIn K mainGlobals "fair_losses" = some (some (.ref f22)))
    (l22 : K.lookup f22 = some ⟨oc22, od22, .func (PySem.W.fnOf "fair_losses" "fair_losses" (defArgs s_fair_losses) (defBody s_fair_losses) (defScope s_fair_losses) .none kV22 dc22 pm22 an22 cd22 ct22), sl22⟩)
    (c22 : PySem.W.codeIn K cd22 "fair_losses" = true)
    (k22 : PySem.W.keepIn K (.ref f22) = true)
    (a23 : PySem.W.nsIn K mainGlobals "_law_same" = some (some (.ref f23)))
    (l23 : K.lookup f23 = some ⟨oc23, od23, .func (PySem.W.fnOf "_law_same" "_law_same" (defArgs s_law_same) (defBody s_law_same) (defScope s_law_same) .none kV23 dc23 pm23 an23 cd23 ct23), sl23⟩)
    (c23 : PySem.W.codeIn K cd23 "_law_same" = true)
    (k23 : PySem.W.keepIn K (.ref f23) = true)
    (a24 : PySem.W.nsIn K mainGlobals "_law_pool" = some (some (.ref f24)))
    (l24 : K.lookup f24 = some ⟨oc24, od24, .func (PySem.W.fnOf "_law_pool" "_law_pool" (defArgs s_law_pool) (defBody s_law_pool) (defScope s_law_pool) .none kV24 dc24 pm24 an24 cd24 ct24), sl24⟩)
    (c24 : PySem.W.codeIn K cd24 "_law_pool" = true)
    (k24 : PySem.W.keepIn K (.ref f24) = true)
    (a25 : PySem.W.nsIn K mainGlobals "_law_spread" = some (some (.ref f25)))
    (l25 : K.lookup f25 = some ⟨oc25, od25, .func (PySem.W.fnOf "_law_spread" "_law_spread" (defArgs s_law_spread) (defBody s_law_spread) (defScope s_law_spread) .none kV25 dc25 pm25 an25 cd25 ct25), sl25⟩)
    (c25 : PySem.W.codeIn K cd25 "_law_spread" = true)
    (k25 : PySem.W.keepIn K (.ref f25) = true)
    (a26 : PySem.W.nsIn K mainGlobals "_law_draw" = some (some (.ref f26)))
    (l26 : K.lookup f26 = some ⟨oc26, od26, .func (PySem.W.fnOf "_law_draw" "_law_draw" (defArgs s_law_draw) (defBody s_law_draw) (defScope s_law_draw) .none kV26 dc26 pm26 an26 cd26 ct26), sl26⟩)
    (c26 : PySem.W.codeIn K cd26 "_law_draw" = true)
    (k26 : PySem.W.keepIn K (.ref f26) = true)
    (a27 : PySem.W.nsIn K mainGlobals "_law_shuffled" = some (some (.ref f27)))
    (l27 : K.lookup f27 = some ⟨oc27, od27, .func (PySem.W.fnOf "_law_shuffled" "_law_shuffled" (defArgs s_law_shuffled) (defBody s_law_shuffled) (defScope s_law_shuffled) .none kV27 dc27 pm27 an27 cd27 ct27), sl27⟩)
    (c27 : PySem.W.codeIn K cd27 "_law_shuffled" = true)
    (k27 : PySem.W.keepIn K (.ref f27) = true)
    (a28 : PySem.W.nsIn K mainGlobals "_law_curve" = some (some (.ref f28)))
    (l28 : K.lookup f28 = some ⟨oc28, od28, .func (PySem.W.fnOf "_law_curve" "_law_curve" (defArgs s_law_curve) (defBody s_law_curve) (defScope s_law_curve) .none kV28 dc28 pm28 an28 cd28 ct28), sl28⟩)
    (c28 : PySem.W.codeIn K cd28 "_law_curve" = true)
    (k28 : PySem.W.keepIn K (.ref f28) = true)
    (a29 : PySem.W.nsIn K mainGlobals "_law_bounds" = some (some (.ref f29)))
    (l29 : K.lookup f29 = some ⟨oc29, od29, .func (PySem.W.fnOf "_law_bounds" "_law_bounds" (defArgs s_law_bounds) (defBody s_law_bounds) (defScope s_law_bounds) .none kV29 dc29 pm29 an29 cd29 ct29), sl29⟩)
    (c29 : PySem.W.codeIn K cd29 "_law_bounds" = true)
    (k29 : PySem.W.keepIn K (.ref f29) = true)
    (a30 : PySem.W.nsIn K mainGlobals "_law_farm" = some (some (.ref f30)))
    (l30 : K.lookup f30 = some ⟨oc30, od30, .func (PySem.W.fnOf "_law_farm" "_law_farm" (defArgs s_law_farm) (defBody s_law_farm) (defScope s_law_farm) .none kV30 dc30 pm30 an30 cd30 ct30), sl30⟩)
    (c30 : PySem.W.codeIn K cd30 "_law_farm" = true)
    (k30 : PySem.W.keepIn K (.ref f30) = true)
    (a31 : PySem.W.nsIn K mainGlobals "_law_some_case" = some (some (.ref f31)))
    (l31 : K.lookup f31 = some ⟨oc31, od31, .func (PySem.W.fnOf "_law_some_case" "_law_some_case" (defArgs s_law_some_case) (defBody s_law_some_case) (defScope s_law_some_case) .none kV31 dc31 pm31 an31 cd31 ct31), sl31⟩)
    (c31 : PySem.W.codeIn K cd31 "_law_some_case" = true)
    (k31 : PySem.W.keepIn K (.ref f31) = true)
    (a32 : PySem.W.nsIn K mainGlobals "_law_told_or_none" = some (some (.ref f32)))
    (l32 : K.lookup f32 = some ⟨oc32, od32, .func (PySem.W.fnOf "_law_told_or_none" "_law_told_or_none" (defArgs s_law_told_or_none) (defBody s_law_told_or_none) (defScope s_law_told_or_none) .none kV32 dc32 pm32 an32 cd32 ct32), sl32⟩)
    (c32 : PySem.W.codeIn K cd32 "_law_told_or_none" = true)
    (k32 : PySem.W.keepIn K (.ref f32) = true)
    (a33 : PySem.W.nsIn K mainGlobals "_law_farm_renamed" = some (some (.ref f33)))
    (l33 : K.lookup f33 = some ⟨oc33, od33, .func (PySem.W.fnOf "_law_farm_renamed" "_law_farm_renamed" (defArgs s_law_farm_renamed) (defBody s_law_farm_renamed) (defScope s_law_farm_renamed) .none kV33 dc33 pm33 an33 cd33 ct33), sl33⟩)
    (c33 : PySem.W.codeIn K cd33 "_law_farm_renamed" = true)
    (k33 : PySem.W.keepIn K (.ref f33) = true)
    (a34 : PySem.W.nsIn K mainGlobals "law" = some (some (.ref f34)))
    (l34 : K.lookup f34 = some ⟨oc34, od34, .func (PySem.W.fnOf "law" "law" (defArgs s_law) (defBody s_law) (defScope s_law) .none kV34 dc34 pm34 an34 cd34 ct34), sl34⟩)
    (c34 : PySem.W.codeIn K cd34 "law" = true)
    (k34 : PySem.W.keepIn K (.ref f34) = true)
    (z_len : PySem.W.nsIn K mainGlobals "len" = some none)
    (z_max : PySem.W.nsIn K mainGlobals "max" = some none)
    (z_min : PySem.W.nsIn K mainGlobals "min" = some none)
    (z_abs : PySem.W.nsIn K mainGlobals "abs" = some none)
    (z_sum : PySem.W.nsIn K mainGlobals "sum" = some none)
    (z_sorted : PySem.W.nsIn K mainGlobals "sorted" = some none)
    (z_tuple : PySem.W.nsIn K mainGlobals "tuple" = some none)
    (z_list : PySem.W.nsIn K mainGlobals "list" = some none)
    (z_int : PySem.W.nsIn K mainGlobals "int" = some none)
    (z_range : PySem.W.nsIn K mainGlobals "range" = some none)
    (z_zip : PySem.W.nsIn K mainGlobals "zip" = some none)
    (z_set : PySem.W.nsIn K mainGlobals "set" = some none)
    (z_isinstance : PySem.W.nsIn K mainGlobals "isinstance" = some none)
    (z_bool : PySem.W.nsIn K mainGlobals "bool" = some none)
    (z_str : PySem.W.nsIn K mainGlobals "str" = some none)
    (aD : PySem.W.nsIn K mainGlobals "DIRECTIONS" = some (some (.int 4 tD)))
    (aC : PySem.W.nsIn K mainGlobals "CAUSES" = some (some (.ref CC)))
    (lC : K.lookup CC = some ⟨.type "tuple", odC, .seq #[.str "cap" tC1, .str "stop" tC2, .str "wake" tC3] nC, slC⟩)
    (aN : PySem.W.nsIn K mainGlobals "NoWeather" = some (some (.ref CF)))
    (xF : PySem.W.excIn K CF [.type "ValueError", .type "Exception", .type "BaseException", .type "object"] "ValueError.__new__" = true)
    (kF : PySem.W.keepIn K (.ref CF) = true)
    (bF : PySem.W.subIn K (.ref CF) (.type "BaseException") = some true)
    (tF : PySem.W.typeIn K (.ref CF) = some (.type "type"))
    (iF : PySem.W.isClsIn K CF = true)
    (sF : PySem.W.subIn K (.ref CF) (.ref CF) = some true)
    : ∃ fd : FuncData, (∀ (s : Shared) (u : Value), BindsTo s fd ⟨[u], []⟩ [("script", u)]) ∧ ∀ base : Heap, K.In base → base.Ns mainGlobals mg → FnOk P w K mg base CX0 8 fa fd ["script"] (spP K g_law) := by
  have e := hfa.symm.trans (PySem.W.mg_of X G a34)
  cases e
  have T : Bi mg := ⟨PySem.W.mg_none_of X G z_len, PySem.W.mg_none_of X G z_max, PySem.W.mg_none_of X G z_min, PySem.W.mg_none_of X G z_abs, PySem.W.mg_none_of X G z_sum, PySem.W.mg_none_of X G z_sorted, PySem.W.mg_none_of X G z_tuple, PySem.W.mg_none_of X G z_list, PySem.W.mg_none_of X G z_int, PySem.W.mg_none_of X G z_range, PySem.W.mg_none_of X G z_zip, PySem.W.mg_none_of X G z_set, PySem.W.mg_none_of X G z_isinstance, PySem.W.mg_none_of X G z_bool, PySem.W.mg_none_of X G z_str⟩
  have g_DIRECTIONS : Gk K mg "DIRECTIONS" (.int 4) := ⟨.int 4, _, PySem.W.mg_of X G aD, ⟨_, rfl⟩, fun _ => .int 4⟩
  have g_CAUSES : Gk K mg "CAUSES" (.tuple (dS CA)) := ⟨.ref CC, _, PySem.W.mg_of X G aC, rfl, fun _ => Dp.tup (xs := [.str "cap", .str "stop", .str "wake"]) (.inr ⟨_, _, _, lC, rfl, rfl, (by rw [PySem.sizeLine_eq]; show 3 ≤ _; omega), .cons ⟨_, rfl⟩ (.cons ⟨_, rfl⟩ (.cons ⟨_, rfl⟩ .nil))⟩) (.cons (.str _) (.cons (.str _) (.cons (.str _) .nil)))⟩
  have GN : OwnEx K mg "NoWeather" CF := ⟨PySem.W.mg_of X G aN, xF, kF, bF, tF, exm_self bF iF tF sF⟩
  have F0 := fun_mk (st := s_subsets) l0 c0 k0
  have D_subsets : Def K mg "subsets" s_subsets ["items"] := ⟨_, _, F0, PySem.W.mg_of X G a0, F0.binds (ps := ["items"]) fun _ _ _ _ _ _ us hl => match us, hl with | [_], _ => rfl⟩
  have F1 := fun_mk (st := s_power) l1 c1 k1
  have D_power : Def K mg "power" s_power ["curve", "wind"] := ⟨_, _, F1, PySem.W.mg_of X G a1, F1.binds (ps := ["curve", "wind"]) fun _ _ _ _ _ _ us hl => match us, hl with | [_, _], _ => rfl⟩
  have F2 := fun_mk (st := s_is_gap) l2 c2 k2
  have D_is_gap : Def K mg "is_gap" s_is_gap ["bounds", "i", "j"] := ⟨_, _, F2, PySem.W.mg_of X G a2, F2.binds (ps := ["bounds", "i", "j"]) fun _ _ _ _ _ _ us hl => match us, hl with | [_, _, _], _ => rfl⟩
  have F3 := fun_mk (st := s_first_gap) l3 c3 k3
  have D_first_gap : Def K mg "first_gap" s_first_gap ["bounds"] := ⟨_, _, F3, PySem.W.mg_of X G a3, F3.binds (ps := ["bounds"]) fun _ _ _ _ _ _ us hl => match us, hl with | [_], _ => rfl⟩
  have F4 := fun_mk (st := s_swept) l4 c4 k4
  have D_swept : Def K mg "swept" s_swept ["hours", "step"] := ⟨_, _, F4, PySem.W.mg_of X G a4, F4.binds (ps := ["hours", "step"]) fun _ _ _ _ _ _ us hl => match us, hl with | [_, _], _ => rfl⟩
  have F5 := fun_mk (st := s_narrowed) l5 c5 k5
  have D_narrowed : Def K mg "narrowed" s_narrowed ["bounds"] := ⟨_, _, F5, PySem.W.mg_of X G a5, F5.binds (ps := ["bounds"]) fun _ _ _ _ _ _ us hl => match us, hl with | [_], _ => rfl⟩
  have F6 := fun_mk (st := s_first_weather) l6 c6 k6
  have D_first_weather : Def K mg "first_weather" s_first_weather ["bounds"] := ⟨_, _, F6, PySem.W.mg_of X G a6, F6.binds (ps := ["bounds"]) fun _ _ _ _ _ _ us hl => match us, hl with | [_], _ => rfl⟩
  have F7 := fun_mk (st := s_weather_paper) l7 c7 k7
  have D_weather_paper : Def K mg "weather_paper" s_weather_paper ["bounds"] := ⟨_, _, F7, PySem.W.mg_of X G a7, F7.binds (ps := ["bounds"]) fun _ _ _ _ _ _ us hl => match us, hl with | [_], _ => rfl⟩
  have F8 := fun_mk (st := s_weathers) l8 c8 k8
  have D_weathers : Def K mg "weathers" s_weathers ["bounds"] := ⟨_, _, F8, PySem.W.mg_of X G a8, F8.binds (ps := ["bounds"]) fun _ _ _ _ _ _ us hl => match us, hl with | [_], _ => rfl⟩
  have F9 := fun_mk (st := s_taken) l9 c9 k9
  have D_taken : Def K mg "taken" s_taken ["farm", "case", "machine"] := ⟨_, _, F9, PySem.W.mg_of X G a9, F9.binds (ps := ["farm", "case", "machine"]) fun _ _ _ _ _ _ us hl => match us, hl with | [_, _, _], _ => rfl⟩
  have F10 := fun_mk (st := s_winds_at) l10 c10 k10
  have D_winds_at : Def K mg "winds_at" s_winds_at ["farm", "case"] := ⟨_, _, F10, PySem.W.mg_of X G a10, F10.binds (ps := ["farm", "case"]) fun _ _ _ _ _ _ us hl => match us, hl with | [_, _], _ => rfl⟩
  have F11 := fun_mk (st := s_outputs) l11 c11 k11
  have D_outputs : Def K mg "outputs" s_outputs ["farm", "case"] := ⟨_, _, F11, PySem.W.mg_of X G a11, F11.binds (ps := ["farm", "case"]) fun _ _ _ _ _ _ us hl => match us, hl with | [_, _], _ => rfl⟩
  have F12 := fun_mk (st := s_output) l12 c12 k12
  have D_output : Def K mg "output" s_output ["farm", "case"] := ⟨_, _, F12, PySem.W.mg_of X G a12, F12.binds (ps := ["farm", "case"]) fun _ _ _ _ _ _ us hl => match us, hl with | [_, _], _ => rfl⟩
  have F13 := fun_mk (st := s_cases) l13 c13 k13
  have D_cases : Def K mg "cases" s_cases ["low", "high", "machines", "stops"] := ⟨_, _, F13, PySem.W.mg_of X G a13, F13.binds (ps := ["low", "high", "machines", "stops"]) fun _ _ _ _ _ _ us hl => match us, hl with | [_, _, _, _], _ => rfl⟩
  have F14 := fun_mk (st := s_worst_case) l14 c14 k14
  have D_worst_case : Def K mg "worst_case" s_worst_case ["farm", "low", "high", "stops"] := ⟨_, _, F14, PySem.W.mg_of X G a14, F14.binds (ps := ["farm", "low", "high", "stops"]) fun _ _ _ _ _ _ us hl => match us, hl with | [_, _, _, _], _ => rfl⟩
  have F15 := fun_mk (st := s_best_case) l15 c15 k15
  have D_best_case : Def K mg "best_case" s_best_case ["farm", "low", "high", "stops"] := ⟨_, _, F15, PySem.W.mg_of X G a15, F15.binds (ps := ["farm", "low", "high", "stops"]) fun _ _ _ _ _ _ us hl => match us, hl with | [_, _, _, _], _ => rfl⟩
  have F16 := fun_mk (st := s_sure_outputs) l16 c16 k16
  have D_sure_outputs : Def K mg "sure_outputs" s_sure_outputs ["farm", "bounds", "stops"] := ⟨_, _, F16, PySem.W.mg_of X G a16, F16.binds (ps := ["farm", "bounds", "stops"]) fun _ _ _ _ _ _ us hl => match us, hl with | [_, _, _], _ => rfl⟩
  have F17 := fun_mk (st := s_divisor) l17 c17 k17
  have D_divisor : Def K mg "divisor" s_divisor ["a", "b"] := ⟨_, _, F17, PySem.W.mg_of X G a17, F17.binds (ps := ["a", "b"]) fun _ _ _ _ _ _ us hl => match us, hl with | [_, _], _ => rfl⟩
  have F18 := fun_mk (st := s_fraction) l18 c18 k18
  have D_fraction : Def K mg "fraction" s_fraction ["p", "q"] := ⟨_, _, F18, PySem.W.mg_of X G a18, F18.binds (ps := ["p", "q"]) fun _ _ _ _ _ _ us hl => match us, hl with | [_, _], _ => rfl⟩
  have F19 := fun_mk (st := s_gives) l19 c19 k19
  have D_gives : Def K mg "gives" s_gives ["farm", "case", "cap", "causes"] := ⟨_, _, F19, PySem.W.mg_of X G a19, F19.binds (ps := ["farm", "case", "cap", "causes"]) fun _ _ _ _ _ _ us hl => match us, hl with | [_, _, _, _], _ => rfl⟩
  have F20 := fun_mk (st := s_lost_in_order) l20 c20 k20
  have D_lost_in_order : Def K mg "lost_in_order" s_lost_in_order ["farm", "case", "cap", "order"] := ⟨_, _, F20, PySem.W.mg_of X G a20, F20.binds (ps := ["farm", "case", "cap", "order"]) fun _ _ _ _ _ _ us hl => match us, hl with | [_, _, _, _], _ => rfl⟩
  have F21 := fun_mk (st := s_orders) l21 c21 k21
  have D_orders : Def K mg "orders" s_orders ["items"] := ⟨_, _, F21, PySem.W.mg_of X G a21, F21.binds (ps := ["items"]) fun _ _ _ _ _ _ us hl => match us, hl with | [_], _ => rfl⟩
  have F22 := fun_mk (st := s_fair_losses) l22 c22 k22
  have D_fair_losses : Def K mg "fair_losses" s_fair_losses ["farm", "case", "cap"] := ⟨_, _, F22, PySem.W.mg_of X G a22, F22.binds (ps := ["farm", "case", "cap"]) fun _ _ _ _ _ _ us hl => match us, hl with | [_, _, _], _ => rfl⟩
  have F23 := fun_mk (st := s_law_same) l23 c23 k23
  have D_law_same : Def K mg "_law_same" s_law_same ["actual", "due"] := ⟨_, _, F23, PySem.W.mg_of X G a23, F23.binds (ps := ["actual", "due"]) fun _ _ _ _ _ _ us hl => match us, hl with | [_, _], _ => rfl⟩
  have F24 := fun_mk (st := s_law_pool) l24 c24 k24
  have D_law_pool : Def K mg "_law_pool" s_law_pool ["script"] := ⟨_, _, F24, PySem.W.mg_of X G a24, F24.binds (ps := ["script"]) fun _ _ _ _ _ _ us hl => match us, hl with | [_], _ => rfl⟩
  have F25 := fun_mk (st := s_law_spread) l25 c25 k25
  have D_law_spread : Def K mg "_law_spread" s_law_spread ["cell"] := ⟨_, _, F25, PySem.W.mg_of X G a25, F25.binds (ps := ["cell"]) fun _ _ _ _ _ _ us hl => match us, hl with | [_], _ => rfl⟩
  have F26 := fun_mk (st := s_law_draw) l26 c26 k26
  have D_law_draw : Def K mg "_law_draw" s_law_draw ["pool", "many"] := ⟨_, _, F26, PySem.W.mg_of X G a26, F26.binds (ps := ["pool", "many"]) fun _ _ _ _ _ _ us hl => match us, hl with | [_, _], _ => rfl⟩
  have F27 := fun_mk (st := s_law_shuffled) l27 c27 k27
  have D_law_shuffled : Def K mg "_law_shuffled" s_law_shuffled ["pool", "rows"] := ⟨_, _, F27, PySem.W.mg_of X G a27, F27.binds (ps := ["pool", "rows"]) fun _ _ _ _ _ _ us hl => match us, hl with | [_, _], _ => rfl⟩
  have F28 := fun_mk (st := s_law_curve) l28 c28 k28
  have D_law_curve : Def K mg "_law_curve" s_law_curve ["pool", "top"] := ⟨_, _, F28, PySem.W.mg_of X G a28, F28.binds (ps := ["pool", "top"]) fun _ _ _ _ _ _ us hl => match us, hl with | [_, _], _ => rfl⟩
  have F29 := fun_mk (st := s_law_bounds) l29 c29 k29
  have D_law_bounds : Def K mg "_law_bounds" s_law_bounds ["pool", "hours", "wide"] := ⟨_, _, F29, PySem.W.mg_of X G a29, F29.binds (ps := ["pool", "hours", "wide"]) fun _ _ _ _ _ _ us hl => match us, hl with | [_, _, _], _ => rfl⟩
  have F30 := fun_mk (st := s_law_farm) l30 c30 k30
  have D_law_farm : Def K mg "_law_farm" s_law_farm ["pool", "most", "top"] := ⟨_, _, F30, PySem.W.mg_of X G a30, F30.binds (ps := ["pool", "most", "top"]) fun _ _ _ _ _ _ us hl => match us, hl with | [_, _, _], _ => rfl⟩
  have F31 := fun_mk (st := s_law_some_case) l31 c31 k31
  have D_law_some_case : Def K mg "_law_some_case" s_law_some_case ["pool", "many"] := ⟨_, _, F31, PySem.W.mg_of X G a31, F31.binds (ps := ["pool", "many"]) fun _ _ _ _ _ _ us hl => match us, hl with | [_, _], _ => rfl⟩
  have F32 := fun_mk (st := s_law_told_or_none) l32 c32 k32
  have D_law_told_or_none : Def K mg "_law_told_or_none" s_law_told_or_none ["word", "farm", "bounds", "stops"] := ⟨_, _, F32, PySem.W.mg_of X G a32, F32.binds (ps := ["word", "farm", "bounds", "stops"]) fun _ _ _ _ _ _ us hl => match us, hl with | [_, _, _, _], _ => rfl⟩
  have F33 := fun_mk (st := s_law_farm_renamed) l33 c33 k33
  have D_law_farm_renamed : Def K mg "_law_farm_renamed" s_law_farm_renamed ["farm", "names", "kinds", "sides"] := ⟨_, _, F33, PySem.W.mg_of X G a33, F33.binds (ps := ["farm", "names", "kinds", "sides"]) fun _ _ _ _ _ _ us hl => match us, hl with | [_, _, _, _], _ => rfl⟩
  have F34 := fun_mk (st := s_law) l34 c34 k34
  refine ⟨PySem.W.fnOf "law" "law" (defArgs s_law) (defBody s_law) (defScope s_law) .none kV34 dc34 pm34 an34 cd34 ct34, fun s u => .of_eq rfl, fun base _ _ => ?_⟩
  have c_power : Cal P w K mg base 1 "power" (spP K g_power) := ok_power D_power T
  have c_taken : Cal P w K mg base 1 "taken" (spP K g_taken) := ok_taken D_taken T
  have c_winds_at : Cal P w K mg base 2 "winds_at" (spP K g_winds_at) := ok_winds_at D_winds_at T c_taken
  have c_outputs : Cal P w K mg base 3 "outputs" (spP K g_outputs) := ok_outputs D_outputs T c_power c_winds_at
  have c_output : Cal P w K mg base 4 "output" (spP K g_output) := ok_output D_output T c_outputs
  have c_gives : Cal P w K mg base 5 "gives" (spP K g_gives) := ok_gives D_gives T c_output
  have c_lost_in_order : Cal P w K mg base 6 "lost_in_order" (spP K g_lost_in_order) := ok_lost_in_order D_lost_in_order T c_gives
  have c_divisor : Cal P w K mg base 1 "divisor" (spP K g_divisor) := ok_divisor D_divisor T
  have c_fraction : Cal P w K mg base 2 "fraction" (spP K g_fraction) := ok_fraction D_fraction T c_divisor
  have c_is_gap : Cal P w K mg base 1 "is_gap" (spP K g_is_gap) := ok_is_gap D_is_gap T
  have c_first_gap : Cal P w K mg base 2 "first_gap" (spP K g_first_gap) := ok_first_gap D_first_gap T c_is_gap
  have c_swept : Cal P w K mg base 1 "swept" (spP K g_swept) := ok_swept D_swept T
  have c_narrowed : Cal P w K mg base 3 "narrowed" (spP K g_narrowed) := ok_narrowed D_narrowed T c_first_gap c_swept
  have c_first_weather : Cal P w K mg base 4 "first_weather" (spP K g_first_weather) := ok_first_weather D_first_weather T c_narrowed
  have c_weather_paper : Cal P w K mg base 5 "weather_paper" (spP K g_weather_paper) := ok_weather_paper D_weather_paper T c_first_gap c_first_weather
  have c_weathers : Cal P w K mg base 1 "weathers" (spP K g_weathers) := ok_weathers D_weathers T
  have c_subsets : Cal P w K mg base 1 "subsets" (spP K g_subsets) := ok_subsets D_subsets T
  have c_cases : Cal P w K mg base 2 "cases" (spP K g_cases) := ok_cases D_cases T g_DIRECTIONS c_subsets
  have c_worst_case : Cal P w K mg base 5 "worst_case" (spP K g_worst_case) := ok_worst_case D_worst_case T c_output c_cases
  have c_best_case : Cal P w K mg base 5 "best_case" (spP K g_best_case) := ok_best_case D_best_case T c_output c_cases
  have c_sure_outputs : Cal P w K mg base 6 "sure_outputs" (spP K g_sure_outputs) := ok_sure_outputs D_sure_outputs T c_narrowed c_worst_case
  have c_orders : Cal P w K mg base 4 "orders" (spP K (g_orders 3)) := ok_orders_all D_orders T 3
  have c_fair_losses : Cal P w K mg base 7 "fair_losses" (spP K g_fair_losses) := ok_fair_losses D_fair_losses T g_CAUSES c_orders c_lost_in_order c_fraction
  have c_law_same : Cal P w K mg base 7 "_law_same" (spP K (g_law_same 6)) := ok_law_same_all D_law_same T 6
  have c_law_pool : Cal P w K mg base 1 "_law_pool" (spN K g_law_pool) := ok_law_pool D_law_pool T
  have c_law_spread : Cal P w K mg base 1 "_law_spread" (spP K g_law_spread) := ok_law_spread D_law_spread T
  have c_law_draw : Cal P w K mg base 2 "_law_draw" (spM K g_law_draw) := ok_law_draw D_law_draw T c_law_spread
  have c_law_shuffled : Cal P w K mg base 3 "_law_shuffled" (spM K g_law_shuffled) := ok_law_shuffled D_law_shuffled T c_law_draw
  have c_law_some_case : Cal P w K mg base 3 "_law_some_case" (spM K g_law_some_case) := ok_law_some_case D_law_some_case T c_law_draw
  have c_law_curve : Cal P w K mg base 3 "_law_curve" (spM K g_law_curve) := ok_law_curve D_law_curve T c_law_draw
  have c_law_bounds : Cal P w K mg base 3 "_law_bounds" (spM K g_law_bounds) := ok_law_bounds D_law_bounds T c_law_draw
  have c_law_farm : Cal P w K mg base 4 "_law_farm" (spM K g_law_farm) := ok_law_farm D_law_farm T c_law_draw c_law_curve
  have c_law_farm_renamed : Cal P w K mg base 1 "_law_farm_renamed" (spP K g_law_farm_renamed) := ok_law_farm_renamed D_law_farm_renamed T
  have x_narrowed : CalX P w K mg base 3 "narrowed" (spG K CF g_gap) := ok_narrowed_gap D_narrowed T GN c_first_gap
  have x_sure_outputs : CalX P w K mg base 4 "sure_outputs" (spG K CF g_gap_sure) := ok_sure_gap D_sure_outputs T x_narrowed
  have c_law_told_or_none : Cal P w K mg base 7 "_law_told_or_none" (spP K g_law_told_or_none) := ok_told D_law_told_or_none T GN c_narrowed c_sure_outputs x_narrowed x_sure_outputs
  exact ok_law F34 T c_law_pool c_law_farm c_law_draw c_law_shuffled c_law_farm_renamed c_law_some_case c_outputs c_winds_at c_law_same c_output c_fair_losses c_gives c_worst_case c_best_case c_law_bounds c_weather_paper c_weathers c_law_told_or_none
/-- the law row's walk -/
theorem walk_law {l : PySem.W.OpenLaw} {q : Program} {loose : List Str} {XP : (Str → Option Value) → Heap → Prop} {YP : World → Heap → Prop} {d : DefRec} {K : Params → PySem.W.Frag} (hn : l.most = some 63) (hdf : d.params.defaults = [])
    (hY : ∀ (w : World) (h : Heap), YP w h → (K w.params).In h)
    (F : ∀ (w : World) (mg : Str → Option Value) (fa : Addr) (h : Heap), (K w.params).In h → h.Ns mainGlobals mg → mg d.name = some (.ref fa) →
      ∃ fd : FuncData, (∀ (s : Shared) (u : Value), BindsTo s fd ⟨[u], []⟩ [("script", u)]) ∧ ∀ base : Heap, (K w.params).In base → base.Ns mainGlobals mg → FnOk l.prog w (K w.params) mg base CX0 8 fa fd ["script"] (spP (K w.params) g_law)) :
    PySem.W.WalkO q loose XP YP l.row.toRowW d [] (fun f vs => PySem.call f vs) :=
  L2.walk_of (n := 63) (k := 8) (x := "script") (CX := fun _ => CX0) (sp := fun w => spP (K w.params) g_law) hn (by decide) hdf ⟨rfl, by decide, by decide⟩ hY F
    (fun _ H a ns hl _ hS => ⟨H, [.list (dI ns)], fun d => d = .bool true, Same.refl H, .cons (.lst hS (dpAll_ofInt ns)) .nil, ⟨ns, rfl, rfl⟩, fun v B' H' d _ dv e => by
      subst e
      exact dp_bool dv⟩) fun _ _ _ _ _ z => z
end W99
end

open PySem PySem.W PyProof.Rows
set_option maxRecDepth 100000 in
set_option maxHeartbeats 0 in
theorem PySem.Challenge.cw_everyweather_k99_whole_farms_and_weather_holds : PySem.Challenge.rw_everyweather_k99_whole_farms_and_weather.Holds := by
  w_on; o_law; k_head; (case hw => w_witness2)
  k_fill
  refine W99.walk_law (l := PySem.Challenge.rw_everyweather_k99_whole_farms_and_weather) rfl rfl (fun w h Y => PySem.W.kIn_of Y) ?F
  case F =>
    intro w mg fa h KX G hmg
    refine' W99.all_mk KX G hmg ?a0 ?l0 ?c0 ?k0 ?a1 ?l1 ?c1 ?k1 ?a2 ?l2 ?c2 ?k2 ?a3 ?l3 ?c3 ?k3 ?a4 ?l4 ?c4 ?k4 ?a5 ?l5 ?c5 ?k5 ?a6 ?l6 ?c6 ?k6 ?a7 ?l7 ?c7 ?k7 ?a8 ?l8 ?c8 ?k8 ?a9 ?l9 ?c9 ?k9 ?a10 ?l10 ?c10 ?k10 ?a11 ?l11 ?c11 ?k11 ?a12 ?l12 ?c12 ?k12 ?a13 ?l13 ?c13 ?k13 ?a14 ?l14 ?c14 ?k14 ?a15 ?l15 ?c15 ?k15 ?a16 ?l16 ?c16 ?k16 ?a17 ?l17 ?c17 ?k17 ?a18 ?l18 ?c18 ?k18 ?a19 ?l19 ?c19 ?k19 ?a20 ?l20 ?c20 ?k20 ?a21 ?l21 ?c21 ?k21 ?a22 ?l22 ?c22 ?k22 ?a23 ?l23 ?c23 ?k23 ?a24 ?l24 ?c24 ?k24 ?a25 ?l25 ?c25 ?k25 ?a26 ?l26 ?c26 ?k26 ?a27 ?l27 ?c27 ?k27 ?a28 ?l28 ?c28 ?k28 ?a29 ?l29 ?c29 ?k29 ?a30 ?l30 ?c30 ?k30 ?a31 ?l31 ?c31 ?k31 ?a32 ?l32 ?c32 ?k32 ?a33 ?l33 ?c33 ?k33 ?a34 ?l34 ?c34 ?k34 ?z_len ?z_max ?z_min ?z_abs ?z_sum ?z_sorted ?z_tuple ?z_list ?z_int ?z_range ?z_zip ?z_set ?z_isinstance ?z_bool ?z_str ?aD ?aC ?lC ?aN ?xF ?kF ?bF ?tF ?iF ?sF
    (case a0 => k_is)
    (case l0 => k_is)
    (case c0 => k_is)
    (case k0 => k_is)
    (case a1 => k_is)
    (case l1 => k_is)
    (case c1 => k_is)
    (case k1 => k_is)
    (case a2 => k_is)
    (case l2 => k_is)
    (case c2 => k_is)
    (case k2 => k_is)
    (case a3 => k_is)
    (case l3 => k_is)
    (case c3 => k_is)
    (case k3 => k_is)
    (case a4 => k_is)
    (case l4 => k_is)
    (case c4 => k_is)
    (case k4 => k_is)
    (case a5 => k_is)
    (case l5 => k_is)
    (case c5 => k_is)
    (case k5 => k_is)
    (case a6 => k_is)
    (case l6 => k_is)
    (case c6 => k_is)
    (case k6 => k_is)
    (case a7 => k_is)
    (case l7 => k_is)
    (case c7 => k_is)
    (case k7 => k_is)
    (case a8 => k_is)
    (case l8 => k_is)
    (case c8 => k_is)
    (case k8 => k_is)
    (case a9 => k_is)
    (case l9 => k_is)
    (case c9 => k_is)
    (case k9 => k_is)
    (case a10 => k_is)
    (case l10 => k_is)
    (case c10 => k_is)
    (case k10 => k_is)
    (case a11 => k_is)
    (case l11 => k_is)
    (case c11 => k_is)
    (case k11 => k_is)
    (case a12 => k_is)
    (case l12 => k_is)
    (case c12 => k_is)
    (case k12 => k_is)
    (case a13 => k_is)
    (case l13 => k_is)
    (case c13 => k_is)
    (case k13 => k_is)
    (case a14 => k_is)
    (case l14 => k_is)
    (case c14 => k_is)
    (case k14 => k_is)
    (case a15 => k_is)
    (case l15 => k_is)
    (case c15 => k_is)
    (case k15 => k_is)
    (case a16 => k_is)
    (case l16 => k_is)
    (case c16 => k_is)
    (case k16 => k_is)
    (case a17 => k_is)
    (case l17 => k_is)
    (case c17 => k_is)
    (case k17 => k_is)
    (case a18 => k_is)
    (case l18 => k_is)
    (case c18 => k_is)
    (case k18 => k_is)
    (case a19 => k_is)
    (case l19 => k_is)
    (case c19 => k_is)
    (case k19 => k_is)
    (case a20 => k_is)
    (case l20 => k_is)
    (case c20 => k_is)
    (case k20 => k_is)
    (case a21 => k_is)
    (case l21 => k_is)
    (case c21 => k_is)
    (case k21 => k_is)
    (case a22 => k_is)
    (case l22 => k_is)
    (case c22 => k_is)
    (case k22 => k_is)
    (case a23 => k_is)
    (case l23 => k_is)
    (case c23 => k_is)
    (case k23 => k_is)
    (case a24 => k_is)
    (case l24 => k_is)
    (case c24 => k_is)
    (case k24 => k_is)
    (case a25 => k_is)
    (case l25 => k_is)
    (case c25 => k_is)
    (case k25 => k_is)
    (case a26 => k_is)
    (case l26 => k_is)
    (case c26 => k_is)
    (case k26 => k_is)
    (case a27 => k_is)
    (case l27 => k_is)
    (case c27 => k_is)
    (case k27 => k_is)
    (case a28 => k_is)
    (case l28 => k_is)
    (case c28 => k_is)
    (case k28 => k_is)
    (case a29 => k_is)
    (case l29 => k_is)
    (case c29 => k_is)
    (case k29 => k_is)
    (case a30 => k_is)
    (case l30 => k_is)
    (case c30 => k_is)
    (case k30 => k_is)
    (case a31 => k_is)
    (case l31 => k_is)
    (case c31 => k_is)
    (case k31 => k_is)
    (case a32 => k_is)
    (case l32 => k_is)
    (case c32 => k_is)
    (case k32 => k_is)
    (case a33 => k_is)
    (case l33 => k_is)
    (case c33 => k_is)
    (case k33 => k_is)
    (case a34 => k_is)
    (case l34 => k_is)
    (case c34 => k_is)
    (case k34 => k_is)
    (case z_len => k_is)
    (case z_max => k_is)
    (case z_min => k_is)
    (case z_abs => k_is)
    (case z_sum => k_is)
    (case z_sorted => k_is)
    (case z_tuple => k_is)
    (case z_list => k_is)
    (case z_int => k_is)
    (case z_range => k_is)
    (case z_zip => k_is)
    (case z_set => k_is)
    (case z_isinstance => k_is)
    (case z_bool => k_is)
    (case z_str => k_is)
    (case aD => k_is)
    (case aC => k_is)
    (case lC => k_is)
    (case aN => k_is)
    (case xF => k_exc)
    (case kF => k_is)
    (case bF => k_is)
    (case tF => k_is)
    (case iF => k_is)
    (case sF => first | rfl | k_is)

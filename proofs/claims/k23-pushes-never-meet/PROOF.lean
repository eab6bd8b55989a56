import PyProof.Rows.All
import Wide.All
import OpenK.AllK
import Wide.FinOn
import HandS.ForMost
import HandS.Wide
import HandS.TryOnly
import HandS.WideBits
import HandS.Style
import HandS.IsInst
import HandS.Zip
import HandS.Rev
import HandS.RevRange
import HandS.Sort
import HandS.SortInts
import HandS.SortKw
import HandS.Conv
import HandS.Flow
import HandS.TupAny
import HandS.TupMul
import HandS.Strs
import HandS.Flt
import HandS.Dict
import HandS.DictComp
import KE.DataMinMax
import KE.DataCmp
import HandS.Deep
import PyProof.DictRoadsH
import PyProof.Rows.TupTab
import HandS.DictTup
import HandS.SortRule
import KE.KRevSl
import KE.SortData
import KE.KDictDisplayH
import HandS.New
import HandS.RaiseMore
import KE.GoesMore
import KE.GoesZip
import KE.KDictZip
import PySem.Challenge.RW_drivenwheels_k23_whole_pushes_never_meet
set_option Elab.async false
set_option linter.all false
set_option maxRecDepth 100000
namespace DL
open PySem PySem.Spec PyProof.Rows L2

/-- data: tuples and lists that stay as they are, by what is in them; lists that change, by their number in the store -/
inductive D where
  | non | bl (b : Bool) | int (i : Int) | str (x : Str) | tup (xs : List D) | lst (xs : List D) | ref (n : Nat)
  /-- the script -/
  | scr (xs : List D)
  /-- a tuple of numbers and texts that was made here: a key -/
  | key (ks : List L2.Key)

inductive Cell where
  | lst (xs : List D)
  /-- a dict whose keys are tuples of numbers and texts -/
  | dct (kvs : List (List L2.Key × D))
  /-- a dict that is locked: a loop walks it -/
  | dlk (kvs : List (List L2.Key × D))
  /-- a dict whose keys are numbers and texts -/
  | dkk (kvs : List (L2.Key × D))
  | dkl (kvs : List (L2.Key × D))
abbrev DStore := List Cell
abbrev DEnv := List (Option D)
abbrev QE := D → DStore → Prop
abbrev St := L2.St

section
variable (K : PySem.W.Frag) (H : Hp) (η μ : List Addr)
mutual
inductive RV : D → V → Prop
  | non : RV .non .non
  | bl (b : Bool) : RV (.bl b) (.bl b)
  | int (i : Int) : RV (.int i) (.int i)
  | str (x : Str) : RV (.str x) (.str x)
  | tup {a : Addr} {xs : List V} {ds : List D} : SqT K H a xs → RVs ds xs → RV (.tup ds) (.ref a)
  | lst {a : Addr} {xs : List V} {ds : List D} : a ∉ μ → a ∉ η → H a = some (.lst xs) → RVs ds xs → RV (.lst ds) (.ref a)
  | scr {a : Addr} {xs : List V} {ds : List D} : ((∃ o, H a = some (.frz o (.lst xs))) ∨ ∀ H', SqL K H' a xs) → RVs ds xs → RV (.scr ds) (.ref a)
  | ref {n : Nat} {a : Addr} : μ[n]? = some a → RV (.ref n) (.ref a)
  | key {a : Addr} {ks : List L2.Key} : H a = some (.tup (ks.map kV)) → RV (.key ks) (.ref a)
inductive RVs : List D → List V → Prop
  | nil : RVs [] []
  | cons {d : D} {v : V} {ds : List D} {vs : List V} : RV d v → RVs ds vs → RVs (d :: ds) (v :: vs)
end
end

/-- values stay what they are -/
structure Ext (η μ : List Addr) (H : Hp) (η' μ' : List Addr) (H' : Hp) : Prop where
  pre : ∃ more, μ' = μ ++ more
  keep : ∀ a o, H a = some o → a ∉ μ → a ∉ η → H' a = some o ∧ a ∉ μ' ∧ a ∉ η'
  tup : ∀ a xs, H a = some (.tup xs) → H' a = some (.tup xs)
  frz : ∀ a o u, H a = some (.frz o u) → H' a = some (.frz o u)
/-- what evaluation does: hidden things stay -/
structure Grow (μ : List Addr) (H : Hp) (μ' : List Addr) (H' : Hp) : Prop where
  pre : ∃ more, μ' = μ ++ more
  keep : ∀ a o, H a = some o → a ∉ μ → H' a = some o ∧ a ∉ μ'
  tup : ∀ a xs, H a = some (.tup xs) → H' a = some (.tup xs)
  frz : ∀ a o u, H a = some (.frz o u) → H' a = some (.frz o u)

section
variable {K : PySem.W.Frag} {H H' H1 H2 : Hp} {η η' η1 η2 μ μ' μ1 μ2 : List Addr}
theorem Grow.refl : Grow μ H μ H := ⟨⟨[], by simp⟩, fun a o h n => ⟨h, n⟩, fun _ _ h => h, fun _ _ _ h => h⟩
theorem Grow.trans (a : Grow μ H μ1 H1) (b : Grow μ1 H1 μ2 H2) : Grow μ H μ2 H2 :=
  ⟨by obtain ⟨m, rfl⟩ := a.pre; obtain ⟨n, rfl⟩ := b.pre; exact ⟨m ++ n, by simp⟩,
   fun c o h n => b.keep c o (a.keep c o h n).1 (a.keep c o h n).2, fun c xs h => b.tup c xs (a.tup c xs h), fun c o u h => b.frz c o u (a.frz c o u h)⟩
theorem Ext.refl : Ext η μ H η μ H := ⟨⟨[], by simp⟩, fun a o h n m => ⟨h, n, m⟩, fun _ _ h => h, fun _ _ _ h => h⟩
theorem Ext.trans (a : Ext η μ H η1 μ1 H1) (b : Ext η1 μ1 H1 η2 μ2 H2) : Ext η μ H η2 μ2 H2 :=
  ⟨by obtain ⟨m, rfl⟩ := a.pre; obtain ⟨n, rfl⟩ := b.pre; exact ⟨m ++ n, by simp⟩,
   fun c o h n m => b.keep c o (a.keep c o h n m).1 (a.keep c o h n m).2.1 (a.keep c o h n m).2.2, fun c xs h => b.tup c xs (a.tup c xs h), fun c o u h => b.frz c o u (a.frz c o u h)⟩
theorem Grow.ext (g : Grow μ H μ' H') : Ext η μ H η μ' H' :=
  ⟨g.pre, fun a o h n m => ⟨(g.keep a o h n).1, (g.keep a o h n).2, m⟩, g.tup, g.frz⟩

theorem SqT.ext (e : Ext η μ H η' μ' H') {a : Addr} {xs : List V} (h : SqT K H a xs) : SqT K H' a xs := by
  rcases h with (h | ⟨o, h⟩) | h
  · exact .inl (.inl (e.tup _ _ h))
  · exact .inl (.inr ⟨o, e.frz _ _ _ h⟩)
  · exact .inr h
mutual
theorem RV.ext (e : Ext η μ H η' μ' H') : ∀ {d : D} {v : V}, RV K H η μ d v → RV K H' η' μ' d v
  | _, _, .non => .non
  | _, _, .bl b => .bl b
  | _, _, .int i => .int i
  | _, _, .str x => .str x
  | _, _, .tup h r => .tup (SqT.ext e h) (RVs.ext e r)
  | _, _, .lst hm hn h r => .lst (e.keep _ _ h hm hn).2.1 (e.keep _ _ h hm hn).2.2 (e.keep _ _ h hm hn).1 (RVs.ext e r)
  | _, _, .scr h r => .scr (h.imp (fun ⟨o, z⟩ => ⟨o, e.frz _ _ _ z⟩) id) (RVs.ext e r)
  | _, _, .ref h => .ref (by
      obtain ⟨m, rfl⟩ := e.pre
      rw [List.getElem?_append_left (List.getElem?_eq_some_iff.mp h).1]; exact h)
  | _, _, .key h => .key (e.tup _ _ h)
theorem RVs.ext (e : Ext η μ H η' μ' H') : ∀ {ds : List D} {vs : List V}, RVs K H η μ ds vs → RVs K H' η' μ' ds vs
  | _, _, .nil => .nil
  | _, _, .cons h r => .cons (RV.ext e h) (RVs.ext e r)
end
theorem RVs.length : ∀ {ds : List D} {vs : List V}, RVs K H η μ ds vs → ds.length = vs.length
  | _, _, .nil => rfl
  | _, _, .cons _ r => by simp [RVs.length r]
theorem RVs.get : ∀ {ds : List D} {vs : List V} {i : Nat} {d : D}, RVs K H η μ ds vs → ds[i]? = some d → ∃ v, vs[i]? = some v ∧ RV K H η μ d v
  | _, _, _, _, .nil, e => by simp at e
  | _, _, 0, _, .cons r _, e => by simp at e; subst e; exact ⟨_, rfl, r⟩
  | _, _, i + 1, d, .cons _ t, e => by
    obtain ⟨v, h1, h2⟩ := RVs.get (i := i) (d := d) t (by simpa using e)
    exact ⟨v, by simpa using h1, h2⟩
theorem RVs.append : ∀ {ds es : List D} {vs ws : List V}, RVs K H η μ ds vs → RVs K H η μ es ws → RVs K H η μ (ds ++ es) (vs ++ ws)
  | _, _, _, _, .nil, s => s
  | _, _, _, _, .cons r t, s => .cons r (RVs.append t s)
theorem RVs.set {d : D} {v : V} (r : RV K H η μ d v) : ∀ {ds : List D} {vs : List V} (i : Nat), RVs K H η μ ds vs → RVs K H η μ (ds.set i d) (vs.set i v)
  | _, _, _, .nil => .nil
  | _, _, 0, .cons _ t => .cons r t
  | _, _, i + 1, .cons q t => .cons q (RVs.set r i t)
theorem RVs.take : ∀ {ds : List D} {vs : List V} (n : Nat), RVs K H η μ ds vs → RVs K H η μ (ds.take n) (vs.take n)
  | _, _, 0, _ => by simpa using .nil
  | _, _, _ + 1, .nil => .nil
  | _, _, n + 1, .cons r t => .cons r (RVs.take n t)
theorem RVs.drop : ∀ {ds : List D} {vs : List V} (n : Nat), RVs K H η μ ds vs → RVs K H η μ (ds.drop n) (vs.drop n)
  | _, _, 0, r => r
  | _, _, _ + 1, .nil => .nil
  | _, _, n + 1, .cons _ t => RVs.drop n t

/-- the environment -/
structure RE (K : PySem.W.Frag) (H : Hp) (η μ : List Addr) (ρ : DEnv) (σ : St) : Prop where
  len : ρ.length = σ.length
  get : ∀ (i : Nat) (d : D), ρ[i]? = some (some d) → ∃ v, σ[i]? = some (some v) ∧ RV K H η μ d v
theorem RE.ext (e : Ext η μ H η' μ' H') {ρ : DEnv} {σ : St} (r : RE K H η μ ρ σ) : RE K H' η' μ' ρ σ :=
  ⟨r.len, fun i d h => let ⟨v, a, b⟩ := r.get i d h; ⟨v, a, b.ext e⟩⟩
theorem RE.set {ρ : DEnv} {σ : St} (r : RE K H η μ ρ σ) {d : D} {v : V} (h : RV K H η μ d v) (i : Nat) : RE K H η μ (ρ.set i (some d)) (σ.set i (some v)) := by
  refine ⟨by simp [r.len], fun j e q => ?_⟩
  by_cases hj : i = j
  · subst hj
    have hl : i < ρ.length := by
      have := (List.getElem?_eq_some_iff.mp q).1
      simpa using this
    rw [List.getElem?_set_self hl] at q
    cases q
    exact ⟨v, by rw [List.getElem?_set_self (by rw [← r.len]; exact hl)], h⟩
  · rw [List.getElem?_set_ne hj] at q ⊢
    exact r.get j e q
theorem RE.del {ρ : DEnv} {σ : St} (r : RE K H η μ ρ σ) (i : Nat) : RE K H η μ (ρ.set i none) (σ.set i none) := by
  refine ⟨by simp [r.len], fun j e q => ?_⟩
  by_cases hj : i = j
  · subst hj
    have hl : i < ρ.length := by
      have := (List.getElem?_eq_some_iff.mp q).1
      simpa using this
    rw [List.getElem?_set_self hl] at q
    cases q
  · rw [List.getElem?_set_ne hj] at q ⊢
    exact r.get j e q

/-- the pairs of a dict -/
inductive RKs {κ : Type} (K : PySem.W.Frag) (H : Hp) (η μ : List Addr) : List (κ × D) → List (κ × V) → Prop
  | nil : RKs K H η μ [] []
  | cons {k : κ} {d : D} {v : V} {ds : List (κ × D)} {vs : List (κ × V)} : RV K H η μ d v → RKs K H η μ ds vs → RKs K H η μ ((k, d) :: ds) ((k, v) :: vs)
theorem RKs.ext {κ : Type} (e : Ext η μ H η' μ' H') : ∀ {ds : List (κ × D)} {vs : List (κ × V)}, RKs K H η μ ds vs → RKs K H' η' μ' ds vs
  | _, _, .nil => .nil
  | _, _, .cons h r => .cons (h.ext e) (RKs.ext e r)
def COk (K : PySem.W.Frag) (H : Hp) (η μ : List Addr) : Cell → Option HO → Prop
  | .lst ds, o => ∃ vs, o = some (.lst vs) ∧ RVs K H η μ ds vs
  | .dct ds, o => ∃ vs, o = some (.dT vs) ∧ RKs K H η μ ds vs
  | .dlk ds, o => ∃ ob vs, o = some (.frz ob (.dT vs)) ∧ RKs K H η μ ds vs
  | .dkk ds, o => ∃ vs, o = some (.dK vs) ∧ RKs K H η μ ds vs
  | .dkl ds, o => ∃ ob vs, o = some (.frz ob (.dK vs)) ∧ RKs K H η μ ds vs
theorem COk.ext (e : Ext η μ H η' μ' H') {c : Cell} {o : Option HO} (h : COk K H η μ c o) : COk K H' η' μ' c o := by
  cases c with
  | lst ds => obtain ⟨vs, a, b⟩ := h; exact ⟨vs, a, b.ext e⟩
  | dct ds => obtain ⟨vs, a, b⟩ := h; exact ⟨vs, a, b.ext e⟩
  | dlk ds => obtain ⟨ob, vs, a, b⟩ := h; exact ⟨ob, vs, a, b.ext e⟩
  | dkk ds => obtain ⟨vs, a, b⟩ := h; exact ⟨vs, a, b.ext e⟩
  | dkl ds => obtain ⟨ob, vs, a, b⟩ := h; exact ⟨ob, vs, a, b.ext e⟩
theorem COk.isSome {c : Cell} {o : Option HO} (h : COk K H η μ c o) : o ≠ none := by
  cases c with
  | lst ds => obtain ⟨vs, rfl, b⟩ := h; exact fun z => nomatch z
  | dct ds => obtain ⟨vs, rfl, b⟩ := h; exact fun z => nomatch z
  | dlk ds => obtain ⟨ob, vs, rfl, b⟩ := h; exact fun z => nomatch z
  | dkk ds => obtain ⟨vs, rfl, b⟩ := h; exact fun z => nomatch z
  | dkl ds => obtain ⟨ob, vs, rfl, b⟩ := h; exact fun z => nomatch z
theorem COk.notTup {c : Cell} {xs : List V} (h : COk K H η μ c (some (.tup xs))) : False := by
  cases c with
  | lst ds => obtain ⟨vs, e, b⟩ := h; cases e
  | dct ds => obtain ⟨vs, e, b⟩ := h; cases e
  | dlk ds => obtain ⟨ob, vs, e, b⟩ := h; cases e
  | dkk ds => obtain ⟨vs, e, b⟩ := h; cases e
  | dkl ds => obtain ⟨ob, vs, e, b⟩ := h; cases e

structure Rp (K : PySem.W.Frag) (η μ : List Addr) (S : DStore) (H : Hp) : Prop where
  len : μ.length = S.length
  nodup : μ.Nodup
  cell : ∀ (n : Nat) (c : Cell), S[n]? = some c → ∃ a, μ[n]? = some a ∧ COk K H η μ c (H a)
  hid : ∀ a ∈ η, a ∉ μ ∧ H a ≠ none ∧ (∀ xs, H a ≠ some (.tup xs)) ∧ ∀ o u, H a ≠ some (.frz o u)
theorem Rp.at (r : Rp K η μ S H) {a : Addr} (h : a ∈ μ) : ∃ (n : Nat) (c : Cell), S[n]? = some c ∧ μ[n]? = some a ∧ COk K H η μ c (H a) := by
  obtain ⟨n, hn, e⟩ := List.getElem_of_mem h
  have hn' : n < S.length := by rw [← r.len]; exact hn
  obtain ⟨b, hb, hc⟩ := r.cell n S[n] (List.getElem?_eq_getElem hn')
  have : b = a := by
    rw [List.getElem?_eq_getElem hn] at hb
    cases hb; exact e
  subst this
  exact ⟨n, S[n], List.getElem?_eq_getElem hn', hb, hc⟩
theorem Rp.fresh {S : DStore} (r : Rp K η μ S H) {p : Addr} (h : H p = none) : p ∉ μ ∧ p ∉ η :=
  ⟨fun z => let ⟨_, _, _, _, c⟩ := r.at z; c.isSome h, fun z => (r.hid p z).2.1 h⟩

theorem grow_new {S : DStore} (r : Rp K η μ S H) {p : Addr} {o : HO} (h : H p = none) : Grow μ H μ (upd H p o) :=
  ⟨⟨[], by simp⟩, fun a u e n => ⟨by rw [upd_ne (ne_of_none e h)]; exact e, n⟩, fun a xs e => by rw [upd_ne (ne_of_none e h)]; exact e, fun a u w e => by rw [upd_ne (ne_of_none e h)]; exact e⟩
/-- a new thing that is not in the store -/
theorem rp_new {S : DStore} (r : Rp K η μ S H) {p : Addr} {o : HO} (h : H p = none) : Rp K η μ S (upd H p o) := by
  have g := (grow_new (o := o) r h).ext (η := η)
  have f := r.fresh h
  refine ⟨r.len, r.nodup, fun n c e => ?_, fun a ha => ?_⟩
  · obtain ⟨a, ha, hc⟩ := r.cell n c e
    have : a ≠ p := fun z => f.1 (z ▸ List.mem_of_getElem? ha)
    exact ⟨a, ha, by rw [upd_ne this]; exact hc.ext g⟩
  · have : a ≠ p := fun z => f.2 (z ▸ ha)
    rw [upd_ne this]; exact r.hid a ha
theorem rv_new_lst {S : DStore} (r : Rp K η μ S H) {p : Addr} {ds : List D} {vs : List V} (h : H p = none) (q : RVs K H η μ ds vs) : RV K (upd H p (.lst vs)) η μ (.lst ds) (.ref p) :=
  .lst (r.fresh h).1 (r.fresh h).2 upd_same (q.ext (grow_new r h).ext)
theorem rv_new_tup {S : DStore} (r : Rp K η μ S H) {p : Addr} {ds : List D} {vs : List V} (h : H p = none) (q : RVs K H η μ ds vs) : RV K (upd H p (.tup vs)) η μ (.tup ds) (.ref p) :=
  .tup (.inl (.inl upd_same)) (q.ext (grow_new r h).ext)
/-- a new list in the store -/
theorem grow_cell {S : DStore} (r : Rp K η μ S H) {p : Addr} {o : HO} (h : H p = none) : Grow μ H (μ ++ [p]) (upd H p o) :=
  ⟨⟨[p], rfl⟩, fun a u e n => ⟨by rw [upd_ne (ne_of_none e h)]; exact e, fun z => by
    rcases List.mem_append.mp z with z | z
    · exact n z
    · exact ne_of_none e h (by simpa using z)⟩, fun a xs e => by rw [upd_ne (ne_of_none e h)]; exact e, fun a u w e => by rw [upd_ne (ne_of_none e h)]; exact e⟩
theorem rp_cell {S : DStore} (r : Rp K η μ S H) {p : Addr} {ds : List D} {vs : List V} (h : H p = none) (q : RVs K H η μ ds vs) : Rp K η (μ ++ [p]) (S ++ [.lst ds]) (upd H p (.lst vs)) := by
  have g := (grow_cell (o := .lst vs) r h).ext (η := η)
  have f := r.fresh h
  refine ⟨by simp [r.len], ?_, fun n c e => ?_, fun a ha => ?_⟩
  · rw [List.nodup_append]
    exact ⟨r.nodup, by simp, fun a ha b hb => by simp at hb; subst hb; exact fun z => f.1 (z ▸ ha)⟩
  · by_cases hn : n < S.length
    · rw [List.getElem?_append_left hn] at e
      obtain ⟨a, ha, hc⟩ := r.cell n c e
      have : a ≠ p := fun z => f.1 (z ▸ List.mem_of_getElem? ha)
      refine ⟨a, by rw [List.getElem?_append_left (by rw [r.len]; exact hn)]; exact ha, by rw [upd_ne this]; exact hc.ext g⟩
    · have hn' : n = S.length := by
        have := (List.getElem?_eq_some_iff.mp e).1
        simp at this
        omega
      subst hn'
      simp at e
      subst e
      exact ⟨p, by rw [← r.len]; simp, vs, upd_same, q.ext g⟩
  · have : a ≠ p := fun z => f.2 (z ▸ ha)
    have q := r.hid a ha
    rw [upd_ne this]
    exact ⟨fun z => by
      rcases List.mem_append.mp z with z | z
      · exact q.1 z
      · exact this (by simpa using z), q.2⟩
theorem rp_cellD {S : DStore} (r : Rp K η μ S H) {p : Addr} {ds : List (List L2.Key × D)} {vs : List (List L2.Key × V)} (h : H p = none) (q : RKs K H η μ ds vs) : Rp K η (μ ++ [p]) (S ++ [.dct ds]) (upd H p (.dT vs)) := by
  have g := (grow_cell (o := .dT vs) r h).ext (η := η)
  have f := r.fresh h
  refine ⟨by simp [r.len], ?_, fun n c e => ?_, fun a ha => ?_⟩
  · rw [List.nodup_append]
    exact ⟨r.nodup, by simp, fun a ha b hb => by simp at hb; subst hb; exact fun z => f.1 (z ▸ ha)⟩
  · by_cases hn : n < S.length
    · rw [List.getElem?_append_left hn] at e
      obtain ⟨a, ha, hc⟩ := r.cell n c e
      have : a ≠ p := fun z => f.1 (z ▸ List.mem_of_getElem? ha)
      refine ⟨a, by rw [List.getElem?_append_left (by rw [r.len]; exact hn)]; exact ha, by rw [upd_ne this]; exact hc.ext g⟩
    · have hn' : n = S.length := by
        have := (List.getElem?_eq_some_iff.mp e).1
        simp at this
        omega
      subst hn'
      simp at e
      subst e
      exact ⟨p, by rw [← r.len]; simp, vs, upd_same, q.ext g⟩
  · have : a ≠ p := fun z => f.2 (z ▸ ha)
    have q := r.hid a ha
    rw [upd_ne this]
    exact ⟨fun z => by
      rcases List.mem_append.mp z with z | z
      · exact q.1 z
      · exact this (by simpa using z), q.2⟩
theorem rp_cellK {S : DStore} (r : Rp K η μ S H) {p : Addr} {ds : List (L2.Key × D)} {vs : List (L2.Key × V)} (h : H p = none) (q : RKs K H η μ ds vs) : Rp K η (μ ++ [p]) (S ++ [.dkk ds]) (upd H p (.dK vs)) := by
  have g := (grow_cell (o := .dK vs) r h).ext (η := η)
  have f := r.fresh h
  refine ⟨by simp [r.len], ?_, fun n c e => ?_, fun a ha => ?_⟩
  · rw [List.nodup_append]
    exact ⟨r.nodup, by simp, fun a ha b hb => by simp at hb; subst hb; exact fun z => f.1 (z ▸ ha)⟩
  · by_cases hn : n < S.length
    · rw [List.getElem?_append_left hn] at e
      obtain ⟨a, ha, hc⟩ := r.cell n c e
      have : a ≠ p := fun z => f.1 (z ▸ List.mem_of_getElem? ha)
      refine ⟨a, by rw [List.getElem?_append_left (by rw [r.len]; exact hn)]; exact ha, by rw [upd_ne this]; exact hc.ext g⟩
    · have hn' : n = S.length := by
        have := (List.getElem?_eq_some_iff.mp e).1
        simp at this
        omega
      subst hn'
      simp at e
      subst e
      exact ⟨p, by rw [← r.len]; simp, vs, upd_same, q.ext g⟩
  · have : a ≠ p := fun z => f.2 (z ▸ ha)
    have q := r.hid a ha
    rw [upd_ne this]
    exact ⟨fun z => by
      rcases List.mem_append.mp z with z | z
      · exact q.1 z
      · exact this (by simpa using z), q.2⟩
theorem rv_cell {S : DStore} (r : Rp K η μ S H) {p : Addr} {H' : Hp} : RV K H' η (μ ++ [p]) (.ref S.length) (.ref p) := .ref (by rw [← r.len]; simp)
/-- a cell is changed -/
theorem grow_set {S : DStore} (r : Rp K η μ S H) {a : Addr} {n : Nat} {o u0 : HO} (h : μ[n]? = some a) (e0 : H a = some u0) (nf : ∀ o u, u0 ≠ .frz o u := by intro _ _ z; cases z) : Grow μ H μ (upd H a o) := by
  have hm : a ∈ μ := List.mem_of_getElem? h
  obtain ⟨_, c, _, _, hc⟩ := r.at hm
  refine ⟨⟨[], by simp⟩, fun b u e n => ⟨?_, n⟩, fun b xs e => ?_, fun b u w e => ?_⟩
  · have ne : b ≠ a := fun z => n (by rw [z]; exact hm)
    rw [upd_ne ne]; exact e
  · rw [upd_ne (fun z => by subst z; rw [e] at hc; exact hc.notTup)]; exact e
  · rw [upd_ne (fun z => by subst z; rw [e0] at e; cases e; exact nf _ _ rfl)]; exact e
/-- a cell holds another thing -/
theorem rp_setC {S : DStore} (r : Rp K η μ S H) {a : Addr} {n : Nat} {c' : Cell} {o : HO} (h : μ[n]? = some a) (g : ∀ c b, b ≠ a → COk K H η μ c (H b) → COk K (upd H a o) η μ c (H b)) (q : COk K (upd H a o) η μ c' (some o)) : Rp K η μ (S.set n c') (upd H a o) := by
  refine ⟨by simp [r.len], r.nodup, fun m c e => ?_, fun b hb => ?_⟩
  · by_cases hm : n = m
    · subst hm
      have hl : n < S.length := by
        have := (List.getElem?_eq_some_iff.mp e).1
        simpa using this
      rw [List.getElem?_set_self hl] at e
      cases e
      exact ⟨a, h, by rw [upd_same]; exact q⟩
    · rw [List.getElem?_set_ne hm] at e
      obtain ⟨b, hb, hc⟩ := r.cell m c e
      have : b ≠ a := fun z => by
        subst z
        exact hm ((List.getElem?_inj (List.getElem?_eq_some_iff.mp h).1 r.nodup).mp (h.trans hb.symm))
      exact ⟨b, hb, by rw [upd_ne this]; exact g c b this hc⟩
  · have : b ≠ a := fun z => (r.hid b hb).1 (z ▸ List.mem_of_getElem? h)
    rw [upd_ne this]; exact r.hid b hb
theorem rp_set {S : DStore} (r : Rp K η μ S H) {a : Addr} {n : Nat} {ds : List D} {vs : List V} {u0 : HO} (h : μ[n]? = some a) (e0 : H a = some u0) (q : RVs K H η μ ds vs) (nf : ∀ o u, u0 ≠ .frz o u := by intro _ _ z; cases z) : Rp K η μ (S.set n (.lst ds)) (upd H a (.lst vs)) := by
  have g := (grow_set (o := .lst vs) r h e0 nf).ext (η := η)
  exact rp_setC r h (fun c b _ hc => hc.ext g) ⟨vs, rfl, q.ext g⟩
theorem rp_setD {S : DStore} (r : Rp K η μ S H) {a : Addr} {n : Nat} {ds : List (List L2.Key × D)} {vs : List (List L2.Key × V)} {u0 : HO} (h : μ[n]? = some a) (e0 : H a = some u0) (q : RKs K H η μ ds vs) (nf : ∀ o u, u0 ≠ .frz o u := by intro _ _ z; cases z) : Rp K η μ (S.set n (.dct ds)) (upd H a (.dT vs)) := by
  have g := (grow_set (o := .dT vs) r h e0 nf).ext (η := η)
  exact rp_setC r h (fun c b _ hc => hc.ext g) ⟨vs, rfl, q.ext g⟩
theorem rp_lock {S : DStore} (r : Rp K η μ S H) {a : Addr} {n : Nat} {ds : List (List L2.Key × D)} {vs : List (List L2.Key × V)} {ob : Obj} (h : μ[n]? = some a) (e0 : H a = some (.dT vs)) (q : RKs K H η μ ds vs) : Rp K η μ (S.set n (.dlk ds)) (upd H a (.frz ob (.dT vs))) := by
  have g := (grow_set (o := .frz ob (.dT vs)) r h e0).ext (η := η)
  exact rp_setC r h (fun c b _ hc => hc.ext g) ⟨ob, vs, rfl, q.ext g⟩
theorem rp_setK {S : DStore} (r : Rp K η μ S H) {a : Addr} {n : Nat} {ds : List (L2.Key × D)} {vs : List (L2.Key × V)} {u0 : HO} (h : μ[n]? = some a) (e0 : H a = some u0) (q : RKs K H η μ ds vs) (nf : ∀ o u, u0 ≠ .frz o u := by intro _ _ z; cases z) : Rp K η μ (S.set n (.dkk ds)) (upd H a (.dK vs)) := by
  have g := (grow_set (o := .dK vs) r h e0 nf).ext (η := η)
  exact rp_setC r h (fun c b _ hc => hc.ext g) ⟨vs, rfl, q.ext g⟩
theorem rp_lockK {S : DStore} (r : Rp K η μ S H) {a : Addr} {n : Nat} {ds : List (L2.Key × D)} {vs : List (L2.Key × V)} {ob : Obj} (h : μ[n]? = some a) (e0 : H a = some (.dK vs)) (q : RKs K H η μ ds vs) : Rp K η μ (S.set n (.dkl ds)) (upd H a (.frz ob (.dK vs))) := by
  have g := (grow_set (o := .frz ob (.dK vs)) r h e0).ext (η := η)
  exact rp_setC r h (fun c b _ hc => hc.ext g) ⟨ob, vs, rfl, q.ext g⟩
section unlock
variable {a : Addr} {ob : Obj} {u o : HO}
/-- what a lock holds: no tuple, no list -/
structure Lk (u : HO) : Prop where
  t : ∀ xs, u ≠ .tup xs
  l : ∀ xs, u ≠ .lst xs
theorem lkT {vs : List (List L2.Key × V)} : Lk (.dT vs) := ⟨(fun _ z => nomatch z), (fun _ z => nomatch z)⟩
theorem lkK {vs : List (L2.Key × V)} : Lk (.dK vs) := ⟨(fun _ z => nomatch z), (fun _ z => nomatch z)⟩
theorem sqt_un {b : Addr} {xs : List V} (lk : Lk u) (e0 : H a = some (.frz ob u)) (h : SqT K H b xs) : SqT K (upd H a o) b xs := by
  rcases h with (h | ⟨o', h⟩) | h
  · exact .inl (.inl (by rw [upd_ne (fun z => by rw [z, e0] at h; cases h)]; exact h))
  · exact .inl (.inr ⟨o', by rw [upd_ne (fun z => by rw [z, e0] at h; cases h; exact lk.t _ rfl)]; exact h⟩)
  · exact .inr h
mutual
theorem RV.un (lk : Lk u) (hm : a ∈ μ) (e0 : H a = some (.frz ob u)) : ∀ {d : D} {v : V}, RV K H η μ d v → RV K (upd H a o) η μ d v
  | _, _, .non => .non
  | _, _, .bl b => .bl b
  | _, _, .int i => .int i
  | _, _, .str x => .str x
  | _, _, .tup h r => .tup (sqt_un lk e0 h) (RVs.un lk hm e0 r)
  | _, _, .lst h1 h2 h r => .lst h1 h2 (by rw [upd_ne (fun z => h1 (by rw [z]; exact hm))]; exact h) (RVs.un lk hm e0 r)
  | _, _, .scr h r => .scr (h.imp (fun ⟨o, z⟩ => ⟨o, by rw [upd_ne (fun y => by rw [y, e0] at z; cases z; exact lk.l _ rfl)]; exact z⟩) id) (RVs.un lk hm e0 r)
  | _, _, .ref h => .ref h
  | _, _, .key h => .key (by rw [upd_ne (fun z => by rw [z, e0] at h; cases h)]; exact h)
theorem RVs.un (lk : Lk u) (hm : a ∈ μ) (e0 : H a = some (.frz ob u)) : ∀ {ds : List D} {ws : List V}, RVs K H η μ ds ws → RVs K (upd H a o) η μ ds ws
  | _, _, .nil => .nil
  | _, _, .cons h r => .cons (RV.un lk hm e0 h) (RVs.un lk hm e0 r)
end
theorem RKs.un {κ : Type} (lk : Lk u) (hm : a ∈ μ) (e0 : H a = some (.frz ob u)) : ∀ {ds : List (κ × D)} {ws : List (κ × V)}, RKs K H η μ ds ws → RKs K (upd H a o) η μ ds ws
  | _, _, .nil => .nil
  | _, _, .cons h r => .cons (h.un lk hm e0) (RKs.un lk hm e0 r)
theorem COk.un (lk : Lk u) (hm : a ∈ μ) (e0 : H a = some (.frz ob u)) {c : Cell} {x : Option HO} (h : COk K H η μ c x) : COk K (upd H a o) η μ c x := by
  cases c with
  | lst ds => obtain ⟨vs, e, b⟩ := h; exact ⟨vs, e, b.un lk hm e0⟩
  | dct ds => obtain ⟨vs, e, b⟩ := h; exact ⟨vs, e, b.un lk hm e0⟩
  | dlk ds => obtain ⟨ob, vs, e, b⟩ := h; exact ⟨ob, vs, e, b.un lk hm e0⟩
  | dkk ds => obtain ⟨vs, e, b⟩ := h; exact ⟨vs, e, b.un lk hm e0⟩
  | dkl ds => obtain ⟨ob, vs, e, b⟩ := h; exact ⟨ob, vs, e, b.un lk hm e0⟩
theorem RE.un {ρ : DEnv} {σ : St} (lk : Lk u) (hm : a ∈ μ) (e0 : H a = some (.frz ob u)) (r : RE K H η μ ρ σ) : RE K (upd H a o) η μ ρ σ :=
  ⟨r.len, fun i d h => let ⟨v, x, y⟩ := r.get i d h; ⟨v, x, y.un lk hm e0⟩⟩
theorem rp_unlock {S : DStore} {n : Nat} {ds : List (List L2.Key × D)} {vs : List (List L2.Key × V)} (r : Rp K η μ S H) (h : μ[n]? = some a) (e0 : H a = some (.frz ob (.dT vs))) (q : RKs K H η μ ds vs) : Rp K η μ (S.set n (.dct ds)) (upd H a (.dT vs)) :=
  rp_setC r h (fun c b _ hc => hc.un lkT (List.mem_of_getElem? h) e0) ⟨vs, rfl, q.un lkT (List.mem_of_getElem? h) e0⟩
theorem rp_unlockK {S : DStore} {n : Nat} {ds : List (L2.Key × D)} {vs : List (L2.Key × V)} (r : Rp K η μ S H) (h : μ[n]? = some a) (e0 : H a = some (.frz ob (.dK vs))) (q : RKs K H η μ ds vs) : Rp K η μ (S.set n (.dkk ds)) (upd H a (.dK vs)) :=
  rp_setC r h (fun c b _ hc => hc.un lkK (List.mem_of_getElem? h) e0) ⟨vs, rfl, q.un lkK (List.mem_of_getElem? h) e0⟩
/-- locked, run, unlocked: as a whole things have grown -/
theorem grow_un {H1 : Hp} {μ1 : List Addr} (lk : Lk u) (nf : ∀ o w, u ≠ .frz o w) (hm : a ∈ μ) (e : H a = some u) (g : Grow μ (upd H a (.frz ob u)) μ1 H1) : Grow μ H μ1 (upd H1 a u) := by
  obtain ⟨more, em⟩ := g.pre
  refine ⟨⟨more, em⟩, fun b x eb n => ?_, fun b xs eb => ?_, fun b x w eb => ?_⟩
  · have ne : b ≠ a := fun z => n (by rw [z]; exact hm)
    have := g.keep b x (by rw [upd_ne ne]; exact eb) n
    exact ⟨by rw [upd_ne ne]; exact this.1, this.2⟩
  · have ne : b ≠ a := fun z => by rw [z, e] at eb; cases eb; exact lk.t _ rfl
    rw [upd_ne ne]; exact g.tup b xs (by rw [upd_ne ne]; exact eb)
  · have ne : b ≠ a := fun z => by rw [z, e] at eb; cases eb; exact nf _ _ rfl
    rw [upd_ne ne]; exact g.frz b x w (by rw [upd_ne ne]; exact eb)
end unlock
/-- a hidden list -/
theorem ext_hide {S : DStore} (r : Rp K η μ S H) {p : Addr} {o : HO} (h : H p = none) : Ext η μ H (p :: η) μ (upd H p o) :=
  ⟨⟨[], by simp⟩, fun a u e n m => ⟨by rw [upd_ne (ne_of_none e h)]; exact e, n, fun z => by
    rcases List.mem_cons.mp z with z | z
    · exact ne_of_none e h z
    · exact m z⟩, fun a xs e => by rw [upd_ne (ne_of_none e h)]; exact e, fun a u w e => by rw [upd_ne (ne_of_none e h)]; exact e⟩
theorem rp_hide {S : DStore} (r : Rp K η μ S H) {p : Addr} {vs : List V} (h : H p = none) : Rp K (p :: η) μ S (upd H p (.lst vs)) := by
  have g := ext_hide (o := .lst vs) r h
  have f := r.fresh h
  refine ⟨r.len, r.nodup, fun n c e => ?_, fun a ha => ?_⟩
  · obtain ⟨a, ha, hc⟩ := r.cell n c e
    have : a ≠ p := fun z => f.1 (z ▸ List.mem_of_getElem? ha)
    exact ⟨a, ha, by rw [upd_ne this]; exact hc.ext g⟩
  · rcases List.mem_cons.mp ha with rfl | ha
    · rw [upd_same]; exact ⟨f.1, (fun z => nomatch z), (fun _ z => nomatch z), (fun _ _ z => nomatch z)⟩
    · have : a ≠ p := fun z => f.2 (z ▸ ha)
      rw [upd_ne this]; exact r.hid a ha
theorem rp_hideO {S : DStore} {o : HO} (r : Rp K η μ S H) {p : Addr} (nt : ∀ xs, o ≠ .tup xs) (nf : ∀ a u, o ≠ .frz a u) (h : H p = none) : Rp K (p :: η) μ S (upd H p o) := by
  have g := ext_hide (o := o) r h
  have f := r.fresh h
  refine ⟨r.len, r.nodup, fun n c e => ?_, fun a ha => ?_⟩
  · obtain ⟨a, ha, hc⟩ := r.cell n c e
    have : a ≠ p := fun z => f.1 (z ▸ List.mem_of_getElem? ha)
    exact ⟨a, ha, by rw [upd_ne this]; exact hc.ext g⟩
  · rcases List.mem_cons.mp ha with rfl | ha
    · rw [upd_same]; exact ⟨f.1, (fun z => nomatch z), (fun _ z => nt _ (Option.some.inj z)), (fun _ _ z => nf _ _ (Option.some.inj z))⟩
    · have : a ≠ p := fun z => f.2 (z ▸ ha)
      rw [upd_ne this]; exact r.hid a ha
/-- the hidden list is changed -/
theorem ext_hset {S : DStore} (r : Rp K (p :: η) μ S H) {o : HO} : Ext (p :: η) μ H (p :: η) μ (upd H p o) := by
  have q := r.hid p (by simp)
  refine ⟨⟨[], by simp⟩, fun a u e n m => ⟨?_, n, m⟩, fun b xs e => ?_, fun b u w e => ?_⟩
  · rw [upd_ne (fun z => m (by simp [z]))]; exact e
  · rw [upd_ne (fun z => by subst z; exact q.2.2.1 _ e)]; exact e
  · rw [upd_ne (fun z => by subst z; exact q.2.2.2 _ _ e)]; exact e
theorem rp_hset {S : DStore} (r : Rp K (p :: η) μ S H) {vs : List V} : Rp K (p :: η) μ S (upd H p (.lst vs)) := by
  have g := ext_hset (o := .lst vs) r
  have q := r.hid p (by simp)
  refine ⟨r.len, r.nodup, fun n c e => ?_, fun a ha => ?_⟩
  · obtain ⟨a, ha, hc⟩ := r.cell n c e
    have : a ≠ p := fun z => q.1 (z ▸ List.mem_of_getElem? ha)
    exact ⟨a, ha, by rw [upd_ne this]; exact hc.ext g⟩
  · by_cases hp : a = p
    · subst hp; rw [upd_same]; exact ⟨q.1, (fun z => nomatch z), (fun _ z => nomatch z), (fun _ _ z => nomatch z)⟩
    · rw [upd_ne hp]; exact r.hid a ha
theorem rp_hsetO {S : DStore} {o : HO} (nt : ∀ xs, o ≠ .tup xs) (nf : ∀ a u, o ≠ .frz a u) (r : Rp K (p :: η) μ S H) : Rp K (p :: η) μ S (upd H p o) := by
  have g := ext_hset (o := o) r
  have q := r.hid p (by simp)
  refine ⟨r.len, r.nodup, fun n c e => ?_, fun a ha => ?_⟩
  · obtain ⟨a, ha, hc⟩ := r.cell n c e
    have : a ≠ p := fun z => q.1 (z ▸ List.mem_of_getElem? ha)
    exact ⟨a, ha, by rw [upd_ne this]; exact hc.ext g⟩
  · by_cases hp : a = p
    · subst hp; rw [upd_same]; exact ⟨q.1, (fun z => nomatch z), (fun _ z => nt _ (Option.some.inj z)), (fun _ _ z => nf _ _ (Option.some.inj z))⟩
    · rw [upd_ne hp]; exact r.hid a ha
/-- it comes to light -/
theorem ext_show {p : Addr} : Ext (p :: η) μ H η μ H := ⟨⟨[], by simp⟩, fun a o h n m => ⟨h, n, fun z => m (by simp [z])⟩, fun _ _ h => h, fun _ _ _ h => h⟩
theorem rp_show {S : DStore} {p : Addr} (r : Rp K (p :: η) μ S H) : Rp K η μ S H :=
  ⟨r.len, r.nodup, fun n c e => let ⟨a, ha, hc⟩ := r.cell n c e; ⟨a, ha, hc.ext ext_show⟩, fun a ha => r.hid a (by simp [ha])⟩
theorem ext_showCell {p : Addr} : Ext (p :: η) μ H η (μ ++ [p]) H := ⟨⟨[p], rfl⟩, fun a o h n m => ⟨h, fun z => by
    rcases List.mem_append.mp z with z | z
    · exact n z
    · exact m (by simp at z; simp [z]), fun z => m (by simp [z])⟩, fun _ _ h => h, fun _ _ _ h => h⟩
theorem rp_showCell {S : DStore} {p : Addr} {ds : List D} {vs : List V} (hp : p ∉ η) (r : Rp K (p :: η) μ S H) (h : H p = some (.lst vs)) (q : RVs K H (p :: η) μ ds vs) : Rp K η (μ ++ [p]) (S ++ [.lst ds]) H := by
  have g : Ext (p :: η) μ H η (μ ++ [p]) H := ext_showCell
  have z := r.hid p (by simp)
  refine ⟨by simp [r.len], ?_, fun n c e => ?_, fun a ha => ?_⟩
  · rw [List.nodup_append]
    exact ⟨r.nodup, by simp, fun a ha b hb => by simp at hb; subst hb; exact fun y => z.1 (y ▸ ha)⟩
  · by_cases hn : n < S.length
    · rw [List.getElem?_append_left hn] at e
      obtain ⟨a, ha, hc⟩ := r.cell n c e
      exact ⟨a, by rw [List.getElem?_append_left (by rw [r.len]; exact hn)]; exact ha, hc.ext g⟩
    · have hn' : n = S.length := by
        have := (List.getElem?_eq_some_iff.mp e).1
        simp at this
        omega
      subst hn'
      simp at e
      subst e
      exact ⟨p, by rw [← r.len]; simp, vs, h, q.ext g⟩
  · have y := r.hid a (by simp [ha])
    exact ⟨fun w => by
      rcases List.mem_append.mp w with w | w
      · exact y.1 w
      · simp at w; subst w; exact hp ha, y.2⟩
theorem rp_showCellK {S : DStore} {p : Addr} {ds : List (L2.Key × D)} {vs : List (L2.Key × V)} (hp : p ∉ η) (r : Rp K (p :: η) μ S H) (h : H p = some (.dK vs)) (q : RKs K H (p :: η) μ ds vs) : Rp K η (μ ++ [p]) (S ++ [.dkk ds]) H := by
  have g : Ext (p :: η) μ H η (μ ++ [p]) H := ext_showCell
  have z := r.hid p (by simp)
  refine ⟨by simp [r.len], ?_, fun n c e => ?_, fun a ha => ?_⟩
  · rw [List.nodup_append]
    exact ⟨r.nodup, by simp, fun a ha b hb => by simp at hb; subst hb; exact fun y => z.1 (y ▸ ha)⟩
  · by_cases hn : n < S.length
    · rw [List.getElem?_append_left hn] at e
      obtain ⟨a, ha, hc⟩ := r.cell n c e
      exact ⟨a, by rw [List.getElem?_append_left (by rw [r.len]; exact hn)]; exact ha, hc.ext g⟩
    · have hn' : n = S.length := by
        have := (List.getElem?_eq_some_iff.mp e).1
        simp at this
        omega
      subst hn'
      simp at e
      subst e
      exact ⟨p, by rw [← r.len]; simp, vs, h, q.ext g⟩
  · have y := r.hid a (by simp [ha])
    exact ⟨fun w => by
      rcases List.mem_append.mp w with w | w
      · exact y.1 w
      · simp at w; subst w; exact hp ha, y.2⟩
end
/-! ### dicts with tuple keys, by values -/
theorem key_ofS {X : Cx} {pins : List (Addr × Obj)} {σ : L2.St} {H : Hp} {s : Shared} {b : Addr} {ks : List L2.Key} (I : Inv X pins σ H s) (h : SqT X.K H b (ks.map kV)) : (tupleKind (mixKind X.prog X.w)).is s.heap ks b := by
  obtain ⟨its, r, ⟨o, e, hc, n, hd⟩, hz⟩ := I.tuple h
  exact ⟨o, its.toArray, n, e, hc, hd, by simpa using items_are r⟩
def rIxD (K : PySem.W.Frag) : R2 := fun x y H Q => ∃ (a b : Addr) (kvs : List (List L2.Key × V)) (ks : List L2.Key) (v : V), x = .ref a ∧ y = .ref b ∧ Rd H a (.dT kvs) ∧ SqT K H b (ks.map kV) ∧ valV kvs ks = some v ∧ Q v H
theorem ix_dictS {X : Cx} (hu : X.A.units + 1 < cLine) : IxR X (rIxD X.K) := by
  intro value slice pins s σ H x y v u Q I rx ry h hs
  obtain ⟨a, b, kvs, ks, w, rfl, rfl, e, hb, l, q⟩ := h
  cases rx; cases ry
  obtain ⟨z, hd, xs, rel, dd⟩ := dt_rd I.hok e
  obtain ⟨w', hw, rw'⟩ := RelO.some_of (v := w) (o := (atKey xs ks).map (·.2)) (by rw [← l]; exact rel.val ks)
  obtain ⟨p, hp, hp2⟩ := Option.map_eq_some_iff.mp hw
  refine subscriptTail_builtinR (x := w') dd.typeIs PySem.F.slot_dict_getitem.lookup (wpAny_getItem_heap (Q := fun r s' => r = w' ∧ EP X pins σ Q r s') (tupleKind_room_in1 hu) (key_ofS I hb) dd hp ?_) hs
  rw [hp2]
  exact ⟨rfl, w, H, I.tok _, rw', q⟩
def rSetD : V → V → V → Hp → (Hp → Prop) → Prop := fun o i v H Q => ∃ (a b : Addr) (kvs : List (List L2.Key × V)) (ks : List L2.Key), o = .ref a ∧ i = .ref b ∧ H a = some (.dT kvs) ∧ H b = some (.tup (ks.map kV)) ∧ kvs.length < sizeLine ∧ Q (upd H a (.dT (putK kvs ks v)))
theorem set_dictT {X : Cx} (hu : X.A.units + 1 < cLine) : PSet X rSetD := by
  intro pins s σ H o i v ov iv u Q I ro ri rv h
  obtain ⟨a, b, kvs, ks, rfl, rfl, ha, hb, hl, q⟩ := h
  cases ro
  exact d_setItem hu I (.t ha hb hl) ri rv fun s' I' => ⟨_, I', q⟩
/-! ### dicts, by data -/
def keyOf : D → Option L2.Key
  | .int i => some (.inl i)
  | .str x => some (.inr x)
  | _ => none
def keysOf : List D → Option (List L2.Key)
  | [] => some []
  | d :: ds => (keyOf d).bind fun k => (keysOf ds).map (k :: ·)
def keyD : L2.Key → D
  | .inl i => .int i
  | .inr x => .str x
def valD {κ : Type} [DecidableEq κ] (kvs : List (κ × D)) (k : κ) : Option D := (kvs.find? fun kv => decide (kv.1 = k)).map (·.2)
def putD {κ : Type} [DecidableEq κ] (kvs : List (κ × D)) (k : κ) (v : D) : List (κ × D) :=
  if (kvs.any fun kv => decide (kv.1 = k)) = true then kvs.map (fun kv => if kv.1 = k then (kv.1, v) else kv) else kvs ++ [(k, v)]
section
variable {K : PySem.W.Frag} {H : Hp} {η μ : List Addr}
theorem keyOf_rv {d : D} {v : V} {k : L2.Key} (r : RV K H η μ d v) (h : keyOf d = some k) : v = kV k := by
  cases r <;> simp only [keyOf, Option.some.injEq, reduceCtorEq] at h <;> subst h <;> rfl
theorem keysOf_rv : ∀ {ds : List D} {vs : List V} {ks : List L2.Key}, RVs K H η μ ds vs → keysOf ds = some ks → vs = ks.map kV
  | _, _, _, .nil, h => by simp only [keysOf, Option.some.injEq] at h; subst h; rfl
  | _, _, ks, .cons r t, h => by
    simp only [keysOf, Option.bind_eq_some_iff, Option.map_eq_some_iff] at h
    obtain ⟨k, h1, ks', h2, rfl⟩ := h
    rw [keyOf_rv r h1, keysOf_rv t h2]; rfl
theorem keyD_rv : ∀ ks : List L2.Key, RVs K H η μ (ks.map keyD) (ks.map kV)
  | [] => .nil
  | .inl i :: ks => .cons (.int i) (keyD_rv ks)
  | .inr x :: ks => .cons (.str x) (keyD_rv ks)
section
variable {κ : Type} [DecidableEq κ]
theorem RKs.length : ∀ {ds : List (κ × D)} {vs : List (κ × V)}, RKs K H η μ ds vs → ds.length = vs.length
  | _, _, .nil => rfl
  | _, _, .cons _ r => by simp [RKs.length r]
theorem RKs.keys : ∀ {ds : List (κ × D)} {vs : List (κ × V)}, RKs K H η μ ds vs → ds.map (·.1) = vs.map (·.1)
  | _, _, .nil => rfl
  | _, _, .cons _ r => by simp [RKs.keys r]
theorem RKs.get : ∀ {ds : List (κ × D)} {vs : List (κ × V)} {i : Nat} {k : κ} {v : V}, RKs K H η μ ds vs → vs[i]? = some (k, v) → ∃ d, ds[i]? = some (k, d) ∧ RV K H η μ d v
  | _, _, _, _, _, .nil, e => by simp at e
  | _, _, 0, _, _, .cons r _, e => by simp at e; obtain ⟨rfl, rfl⟩ := e; exact ⟨_, rfl, r⟩
  | _, _, i + 1, k, v, .cons _ t, e => by
    obtain ⟨d, h1, h2⟩ := RKs.get (i := i) (k := k) (v := v) t (by simpa using e)
    exact ⟨d, by simpa using h1, h2⟩
theorem RKs.val (k : κ) : ∀ {ds : List (κ × D)} {vs : List (κ × V)}, RKs K H η μ ds vs → (∀ d, valD ds k = some d → ∃ v, valV vs k = some v ∧ RV K H η μ d v) ∧ (valD ds k = none → valV vs k = none)
  | _, _, .nil => ⟨fun d h => by simp [valD] at h, fun _ => rfl⟩
  | _, _, @RKs.cons _ _ _ _ _ k' d' v' ds vs r t => by
    by_cases e : k' = k
    · subst e
      refine ⟨fun d h => ?_, fun h => ?_⟩
      · simp [valD] at h; subst h; exact ⟨v', by simp [valV], r⟩
      · simp [valD] at h
    · have ih := RKs.val k t
      have e1 : valD ((k', d') :: ds) k = valD ds k := by simp [valD, List.find?_cons, e]
      have e2 : valV ((k', v') :: vs) k = valV vs k := by simp [valV, List.find?_cons, e]
      rw [e1, e2]; exact ih
theorem RKs.any (k : κ) : ∀ {ds : List (κ × D)} {vs : List (κ × V)}, RKs K H η μ ds vs → (ds.any fun kv => decide (kv.1 = k)) = (vs.any fun kv => decide (kv.1 = k))
  | _, _, .nil => rfl
  | _, _, .cons _ t => by simp only [List.any_cons, RKs.any k t]
theorem RKs.app : ∀ {ds es : List (κ × D)} {vs ws : List (κ × V)}, RKs K H η μ ds vs → RKs K H η μ es ws → RKs K H η μ (ds ++ es) (vs ++ ws)
  | _, _, _, _, .nil, s => s
  | _, _, _, _, .cons r t, s => .cons r (RKs.app t s)
theorem RKs.repl {k : κ} {d : D} {v : V} (r : RV K H η μ d v) : ∀ {ds : List (κ × D)} {vs : List (κ × V)}, RKs K H η μ ds vs → RKs K H η μ (ds.map fun kv => if kv.1 = k then (kv.1, d) else kv) (vs.map fun kv => if kv.1 = k then (kv.1, v) else kv)
  | _, _, .nil => .nil
  | _, _, @RKs.cons _ _ _ _ _ k' d' v' ds vs q t => by
    simp only [List.map_cons]
    by_cases e : k' = k
    · simp only [e, if_true]; exact .cons r (RKs.repl r t)
    · simp only [e, if_false]; exact .cons q (RKs.repl r t)
theorem RKs.put {k : κ} {d : D} {v : V} {ds : List (κ × D)} {vs : List (κ × V)} (q : RKs K H η μ ds vs) (r : RV K H η μ d v) : RKs K H η μ (putD ds k d) (putK vs k v) := by
  unfold putD putK
  rw [q.any k]
  split
  · exact RKs.repl r q
  · exact q.app (.cons r .nil)
end
end
end DL

namespace DL
open PySem PySem.Spec PyProof.Rows L2 PySem.W PySem.Calls PyProof.V
/-! ### the pairs of a dict with tuple keys -/
section
variable {X : Cx} {pins : List (Addr × Obj)} {σ : L2.St} {H : Hp} {s : Shared} {d : Addr} {o : Obj}
theorem frzT2 {kvs : List (List L2.Key × V)} (I : Inv X pins σ H s) (h : H d = some (.frz o (.dT kvs))) :
    (d == sysModules) = false ∧ s.heap.get? d = some o ∧ o.ExactDict ∧ ∃ (es : Array DictEntry) (ep : Nat), o.data = .dict es ep ∧ es.size = kvs.length ∧
      ∀ (i : Nat) (k : List L2.Key) (v : V), kvs[i]? = some (k, v) → ∃ (en : DictEntry) (q : Addr), es[i]? = some en ∧ en.key = .ref q ∧ H q = some (.tup (k.map kV)) ∧ RelV v en.val := by
  obtain ⟨hd, z, hs, xs, pr, o', es, ep, ho, hx, hdt, he, _⟩ := I.hok d _ h
  rw [hd] at ho
  cases ho
  refine ⟨hs, hd, hx, es, ep, hdt, ?_, fun i k v e => ?_⟩
  · have l1 : es.size = xs.length := size_of_entries he
    have l2 : kvs.length = xs.length := Paired.length pr
    omega
  · obtain ⟨b, hb, e1, e2, e3⟩ := paired_get pr e
    have q := entry_at he i
    rw [hb] at q
    exact ⟨_, b.2.1, q, rfl, e2, e3⟩
end
/-- the pairs, each a new tuple: the key's own tuple, the value -/
def Itit (d : Addr) (o : Obj) (kvs : List (List L2.Key × V)) : It :=
  ⟨fun i H => H d = some (.frz o (.dT kvs)) ∧ i < kvs.length, fun i H x H' => ∃ (T : Addr) (k : List L2.Key) (v : V) (q : Addr), kvs[i]? = some (k, v) ∧ H q = some (.tup (k.map kV)) ∧ x = .ref T ∧ H T = none ∧ H' = upd H T (.tup [.ref q, v]), fun i H => H d = some (.frz o (.dT kvs)) ∧ kvs.length ≤ i⟩
section
variable {P : Program} {w : World} {K : PySem.W.Frag} {d : Addr} {o : Obj} {es : Array DictEntry} {ep : Nat}
theorem turn_itemsT {kvs : List (List L2.Key × V)} {elts : List Expr} {kk : Nat} {tpos : Pos} (it : Addr) (hod : o.data = .dict es ep) :
    Turn P w K (.Tuple elts kk tpos) (Itit d o kvs) [it] it (fun i h => ∃ ok ov, IsItemIter h it d i kvs.length ep ok ov) where
  mem := by simp
  obj := fun i h st b hb => by
    have e : b = it := by simpa using hb
    subst e
    obtain ⟨ok, ov, e⟩ := st
    exact ⟨_, e, fun v z => nomatch z⟩
  keep := fun i h h' st k => let ⟨ok, ov, e⟩ := st; ⟨ok, ov, k it (by simp) _ e⟩
  item := by
    intro X hP hw hK hc i pins s σ H E I hf st hg
    subst hP hw hK
    obtain ⟨hd, hi⟩ := hg
    obtain ⟨hs, hgd, hx, es', ep', hdt, hsz, ent⟩ := frzT2 I hd
    obtain ⟨rfl, rfl⟩ := dict_ep hod hdt
    obtain ⟨⟨k, v⟩, hkv⟩ : ∃ p, kvs[i]? = some p := ⟨kvs[i], List.getElem?_eq_getElem hi⟩
    obtain ⟨en, q, hen, hkey, hq, hval⟩ := ent i k v hkv
    obtain ⟨ok, ov, he⟩ := st
    have hi' : i < es'.size := by omega
    have hen' : es'[i] = en := by rw [Array.getElem?_eq_getElem hi'] at hen; exact Option.some.inj hen
    have hlt : it < s.heap.objs.size := Heap.lt_size he
    refine DT.nextI (es := es') (by rw [hsz]; exact he) ⟨o, hgd, hx, hdt⟩ hi' fun h' ho hT hz hk => ?_
    rw [hen'] at ho hT
    refine ⟨_, rfl, wpAny_letOwnedTupleGo_items (s := { s with heap := h' }) ho fun h'' he' sb => ?_⟩
    have hT2 : h''.get? s.heap.objs.size = some { cls := .type "tuple", data := .seq #[en.key, en.val] } := (sb.2 _ (Nat.ne_of_gt hlt)).trans hT
    have new : ObjOk X.prog X.w (upd H s.heap.objs.size (.tup [.ref q, v])) h'' s.heap.objs.size (.tup [.ref q, v]) :=
      ⟨by show 2 ≤ sizeLine; decide, [en.key, en.val], .cons hkey (.cons hval .nil), ⟨_, hT2, rfl, _, rfl⟩⟩
    have I1 : Inv X pins σ (upd H s.heap.objs.size (.tup [.ref q, v])) { s with heap := h'' } :=
      I.turnedNew (t' := s.toks) (ch := [it]) (fun b ob hb e => (sb.2 b (by simpa using hb)).trans (hk b ob (by simpa using hb) e)) hf (Nat.le_refl _) new
    refine ⟨.ref s.heap.objs.size, _, I1, rfl, ⟨_, k, v, q, hkv, hq, rfl, I.hok.fresh (Nat.le_refl _), rfl⟩, ⟨en.key, en.val, ?_⟩, fun b hb => ?_⟩
    · rw [← hsz]; exact he'
    · have e : b = it := by simpa using hb
      rw [e, upd_ne (Nat.ne_of_lt hlt)]
      exact (hf it (by simp)).1
  done := by
    intro X hP hw hK hc i pins s σ H E I hf st hg
    subst hP hw hK
    obtain ⟨hd, hi⟩ := hg
    obtain ⟨f0, f1, f2, f3, f4, f5⟩ := hf it (by simp)
    obtain ⟨hs, hgd, hx, es', ep', hdt, hsz, ent⟩ := frzT2 I hd
    obtain ⟨rfl, rfl⟩ := dict_ep hod hdt
    obtain ⟨ok, ov, he⟩ := st
    exact DT.endI (es := es') (I.ok.hd hc) (by rw [hsz]; exact he) ⟨o, hgd, hx, hdt⟩ (by omega) fun h' eb => ⟨rfl, I.turned (t' := s.toks) (fun b ob hb e => eb b ob hb e) f0 f1 f3 f4 f5⟩
  self := fun A i s Q E st h => let ⟨_, _, e⟩ := st; PySem.W.kcp_self e h
end
def iItemsT (td : TE) : TI := fun σ H R => td σ H fun x H1 => ∃ d o kvs, x = .ref d ∧ H1 d = some (.frz o (.dT kvs)) ∧ R (Itit d o kvs) H1
theorem pi_itemsT {X : Cx} {e : Expr} {td : TE} {apos cpos : Pos} {elts : List Expr} {kk : Nat} {tpos : Pos} (he : PE X e td) (hbase : attributeBase e "items" X.env (eval e X.env) = eval e X.env) (hline : (apos.endLine == cpos.line) = true) :
    PI X (.Tuple elts kk tpos) (.Call (.Attribute e "items" apos) [] [] cpos) (iItemsT td) := by
  refine ⟨fun pins s σ H R I h => ?_⟩
  refine wpAny_Call_method (T := "dict") (id := "dict.items") hbase rfl hline F.plainAttrs_dict F.slot_dict_items F.type_dict_items (thn (he.run pins s σ H _ I h) fun u s1 ⟨x, H1, I1, rx, d, o, kvs, ex, hd, q⟩ => ?_)
  subst ex
  obtain rfl : u = Value.ref d := rx
  obtain ⟨hs, hgd, hx, es, ep, hdt, hsz, ent⟩ := frzT2 I1 hd
  have hraw : DT.Raw s1.heap d es ep := ⟨o, hgd, hx, hdt⟩
  refine ⟨hraw.typeIs, fun b q => by cases q; exact ⟨o, hgd, hx.2.1⟩, ?_⟩
  have I2 : Inv X pins σ H1 { s1 with heap := s1.heap.push { cls := .type "dict_items", data := .fields #[.ref d] } } := I1.kept (t' := s1.toks) fun b ob q => Heap.get?_push_of_some _ q
  have fin : wpAny (model X.prog X.w) X.A (pyIter (.ref s1.heap.objs.size)) (PIE X pins σ (.Tuple elts kk tpos) R) X.xe { s1 with heap := s1.heap.push { cls := .type "dict_items", data := .fields #[.ref d] } } := by
    refine DT.iterI (d := d) (es := es) (ep := ep) ⟨_, Heap.get?_push_size _ rfl, rfl, rfl⟩ (hraw.push _) (pi_one (tk := s1.toks) I2 _ (turn_itemsT _ hdt) ⟨.none, .none, ?_⟩ q)
    rw [← hsz]
    exact Heap.get?_push_size _ rfl
  show wpAny _ _ (callWith cpos (.builtin "dict.items") [.ref d] [] []) _ X.xe s1
  exact method_meetsIn F.slot_dict_items F.entry_dict_items rfl (PySem.evalArgs_none ⟨rfl, hraw.typeIs, F.args_dict_items_1 _, _, DT.meetsItems (es := es) (ep := ep) hs, hraw, fin⟩)
end DL

set_option maxHeartbeats 4000000
namespace DL
open PySem PySem.Spec PyProof.Rows L2
/-! ### a tuple once -/
theorem tuple_mul1 (l : Addr) (items : Array Value) (n : Nat) (dd : Option Addr) (sl : Array (Option Value)) (u : Tok) :
    Meets (Builtin.«tuple.__mul__» ⟨[.ref l, .int 1 u], []⟩) (fun _ R s => s.heap.get? l = some { cls := .type "tuple", dict := dd, data := .seq items n, slots := sl } ∧ R (.ok (.ret (Value.ref l))) s) :=
  .of_wp fun prog w A R s h => by
    obtain ⟨hp, g, d, tk, os⟩ := s
    obtain ⟨hl, h⟩ := h
    have f1 := AutoSeq1.idx_int
    have c0 : (decide ((1 : Int) < -(2 ^ 63)) || decide ((1 : Int) ≥ 2 ^ 63)) = false := by decide
    have c1 : (items.isEmpty || (1 : Int) == 1) = true := by simp
    wp_walk using wpAny_loadPart' hl
    repeat (first
      | (refine wpAny_ite_false (decide_eq_false (by rw [c0]; exact Bool.false_ne_true)) ?_; wp_walk using wpAny_loadPart' hl)
      | (refine wpAny_ite_true (decide_eq_true (by rw [c1])) ?_; wp_walk using wpAny_loadPart' hl))
    exact ⟨_, rfl, h⟩
def rRep1 (K : PySem.W.Frag) : R2 := fun x y H Q => ∃ l xs, x = .ref l ∧ y = .int 1 ∧ SqT K H l xs ∧ Q (.ref l) H
theorem op_rep1 {X : Cx} : OpR X (binaryOp .Mult) (rRep1 X.K) := by
  intro pins s σ H x y v u Q I rx ry h
  obtain ⟨l, xs, rfl, rfl, hT, q⟩ := h
  cases rx
  obtain ⟨t, rfl⟩ := ry
  obtain ⟨its, r, ⟨⟨cls, dd, data, sl⟩, ho, hc, n, hd⟩, hs⟩ := I.tuple hT
  simp only at hc hd
  subst hc hd
  exact wpAny_binaryOp_repeat_ref (T := "tuple") (U := "int") (by decide) ⟨_, ho, rfl⟩ (fun s' => typeIs_int s' 1 t) noFill_tuple_mul F.fills_int_mul F.slot_int_rmul repeat_tuple F.slot_int_index.lookup
    (call_meets F.slot_int_rmul (typeIs_int s 1 t) F.entry_int_rmul (F.args_int_rmul_2 _ _) (int_rmul_tuple 1 t l its.toArray n dd sl)
      ⟨ho, rfl, ⟨_, ho, rfl⟩, call_meets F.slot_tuple_mul ⟨_, ho, rfl⟩ F.entry_tuple_mul (F.args_tuple_mul_2 _ _) (tuple_mul1 l its.toArray n dd sl t) ⟨ho, ⟨.ref l, H, I, rfl, q⟩⟩⟩)
/-! ### a tuple not at all -/
theorem tuple_mul0 (l : Addr) (items : Array Value) (n : Nat) (dd : Option Addr) (sl : Array (Option Value)) (u : Tok) (c1 : (items.isEmpty || (0 : Int) == 1) = false) :
    Meets (Builtin.«tuple.__mul__» ⟨[.ref l, .int 0 u], []⟩) (fun _ R s => s.heap.get? l = some { cls := .type "tuple", dict := dd, data := .seq items n, slots := sl } ∧
      R (.ok (.ret (Value.ref s.heap.objs.size))) { s with heap := s.heap.push { cls := Value.type "tuple", data := Data.seq #[] }, toks := s.toks }) :=
  .of_wp fun prog w A R s h => by
    obtain ⟨hp, g, d, tk, os⟩ := s
    obtain ⟨hl, h⟩ := h
    have f1 := AutoSeq1.idx_int
    have c0 : (decide ((0 : Int) < -(2 ^ 63)) || decide ((0 : Int) ≥ 2 ^ 63)) = false := by decide
    have c2 : (decide ((0 : Int) ≤ 0) || items.isEmpty) = true := by simp
    wp_walk using wpAny_loadPart' hl
    repeat (first
      | (refine wpAny_ite_false (decide_eq_false (by rw [c0]; exact Bool.false_ne_true)) ?_; wp_walk using wpAny_loadPart' hl)
      | (refine wpAny_ite_false (decide_eq_false (by rw [c1]; exact Bool.false_ne_true)) ?_; wp_walk using wpAny_loadPart' hl)
      | (refine wpAny_ite_true (decide_eq_true (by rw [c2])) ?_; wp_walk using wpAny_loadPart' hl))
    exact ⟨_, rfl, h⟩
def rRep0 (K : PySem.W.Frag) : R2 := fun x y H Q => ∃ l xs, x = .ref l ∧ y = .int 0 ∧ SqT K H l xs ∧ xs ≠ [] ∧ ∀ p, H p = none → Q (.ref p) (upd H p (.tup []))
theorem op_rep0 {X : Cx} : OpR X (binaryOp .Mult) (rRep0 X.K) := by
  intro pins s σ H x y v u Q I rx ry h
  obtain ⟨l, xs, rfl, rfl, hT, hx, q⟩ := h
  cases rx
  obtain ⟨t, rfl⟩ := ry
  obtain ⟨its, r, ⟨⟨cls, dd, data, sl⟩, ho, hc, n, hd⟩, hs⟩ := I.tuple hT
  simp only at hc hd
  subst hc hd
  have c1 : (its.toArray.isEmpty || (0 : Int) == 1) = false := by
    cases its with
    | nil => cases r; exact absurd rfl hx
    | cons a b => rfl
  exact wpAny_binaryOp_repeat_ref (T := "tuple") (U := "int") (by decide) ⟨_, ho, rfl⟩ (fun s' => typeIs_int s' 0 t) noFill_tuple_mul F.fills_int_mul F.slot_int_rmul repeat_tuple F.slot_int_index.lookup
    (call_meets F.slot_int_rmul (typeIs_int s 0 t) F.entry_int_rmul (F.args_int_rmul_2 _ _) (int_rmul_tuple 0 t l its.toArray n dd sl)
      ⟨ho, rfl, ⟨_, ho, rfl⟩, call_meets F.slot_tuple_mul ⟨_, ho, rfl⟩ F.entry_tuple_mul (F.args_tuple_mul_2 _ _) (tuple_mul0 l its.toArray n dd sl t c1)
        ⟨ho, ⟨.ref s.heap.objs.size, upd H s.heap.objs.size (.tup []), I.laid (t' := s.toks) (fun b o e => Heap.get?_push_of_some _ e) (Nat.le_refl _) (show ObjOk X.prog X.w _ _ _ (.tup []) from ⟨Nat.zero_le _, [], .nil, IsTup.new _ _⟩), rfl, q _ (I.hok.fresh (Nat.le_refl _))⟩⟩⟩)
end DL

set_option maxHeartbeats 4000000
namespace DL
open PySem PySem.Spec PyProof.Rows L2
/-! ### sorted(d), d a dict with pairs of ints as keys; x in a tuple of data -/
section
variable {X : Cx}
def rSortDT : List V → Hp → VK → Prop := fun xs H Q => ∃ d kvs, xs = [V.ref d] ∧ Rd H d (.dT kvs) ∧ (∀ p ∈ kvs, ∃ i j : Int, p.1 = [Sum.inl i, Sum.inl j]) ∧ ∀ (p : Addr) (ys : List V) (bs : List Addr), H p = none → IsKeys H kvs bs → ys.Perm (bs.map V.ref) → Q (.ref p) (upd H p (.lst ys))
theorem isKeys_pair {H : Hp} : ∀ {kvs : List (List L2.Key × V)} {bs : List Addr}, IsKeys H kvs bs → (∀ p ∈ kvs, ∃ i j : Int, p.1 = [Sum.inl i, Sum.inl j]) → ∀ b ∈ bs, ∃ i j : Int, H b = some (.tup [.int i, .int j])
  | _, _, .nil, _, b, hb => absurd hb (by simp)
  | p :: kvs, c :: bs, .cons h t, hp, b, hb => by
    rcases List.mem_cons.mp hb with rfl | hb
    · obtain ⟨i, j, e⟩ := hp p (List.mem_cons_self ..)
      rw [e] at h
      exact ⟨i, j, h⟩
    · exact isKeys_pair t (fun q hq => hp q (List.mem_cons_of_mem _ hq)) b hb
theorem cr_sortedDT (hc : X.calm = true) : CallR X (.builtin "sorted") rSortDT := by
  intro pins s σ H xs us Q I r h
  obtain ⟨d, kvs, rfl, hd, hpair, q⟩ := h
  obtain ⟨u, rfl, rx⟩ := r.one
  cases rx
  obtain ⟨z, hs, ks, pr, o, es, ep, ho, hx, hdt, he, hn⟩ := (show ObjOk X.prog X.w H s.heap d (.dT kvs) from hd.ok I.hok)
  have l1 : es.size = ks.length := size_of_entries he
  have l2 : kvs.length = ks.length := Paired.length pr
  refine Calls.call_function_entry PyProof.Rows.kind_sorted PyProof.Rows.plain_sorted PyProof.Rows.entry_sorted (PyProof.Rows.args_sorted1 _) ?_
  unfold Builtin.«sorted»
  refine wpAny_bind (m := checkCount "sorted" 1 1 _) (wpAny_pure ?_)
  refine wpAny_bind (PySem.W.kdu_collect (A := X.A.in1) (kdl_raw hs hx hdt) (I.ok.hd hc) ho (by omega) fun h' tk acc' kp it => ?_)
  have ea : acc'.toList = ks.map fun x => Value.ref x.2.1 := by
    have hl : acc'.toList.length = ks.length := by rw [Array.length_toList, it.1]; exact l1
    apply List.ext_getElem?
    intro j
    rw [List.getElem?_map]
    cases hj : acc'.toList[j]? with
    | none =>
      have h1 := List.getElem?_eq_none_iff.mp hj
      rw [List.getElem?_eq_none (by omega)]
      all_goals rfl
    | some v =>
      obtain ⟨en, hen, hv⟩ := it.2 j v (by rw [← Array.getElem?_toList]; exact hj)
      have qe := entry_at he j
      rw [hen] at qe
      cases hb : ks[j]? with
      | none =>
        rw [hb] at qe
        exact nomatch (show some en = none from qe)
      | some b =>
        rw [hb] at qe
        have e2 : en = entryOfKey (tupleKind (mixKind X.prog X.w)) b := Option.some.inj qe
        rw [hv, e2]
        all_goals rfl
  have hl : acc'.toList.length = ks.length := by rw [ea, List.length_map]
  have hz : acc'.toList.length ≤ sizeLine := by omega
  have I1 : Inv X pins σ H { s with heap := h', toks := tk } := I.kept kp
  have hkeys := isKeys_of pr
  have hrefs : ∀ v ∈ acc'.toList, ∃ a, v = Value.ref a := fun v hv => by
    rw [ea] at hv
    obtain ⟨x, _, rfl⟩ := List.mem_map.mp hv
    exact ⟨_, rfl⟩
  have hpr : ∀ v ∈ acc'.toList, ∃ x y, Srt.IsPair h' v x y := fun v hv => by
    rw [ea] at hv
    obtain ⟨x, hx, rfl⟩ := List.mem_map.mp hv
    obtain ⟨i, j, ht⟩ := isKeys_pair hkeys hpair x.2.1 (List.mem_map.mpr ⟨x, hx, rfl⟩)
    obtain ⟨_, its2, r2, o, ho, hc, n, hd⟩ := I1.hok _ _ ht
    obtain ⟨u1, u2, rfl, ri, rj⟩ := vals2 r2
    obtain ⟨t1, rfl⟩ := ri
    obtain ⟨t2, rfl⟩ := rj
    exact ⟨i, j, x.2.1, o, t1, t2, n, rfl, ho, hc, hd⟩
  refine wpAny_bind (wpAny_newList ?_ hz)
  have hoL : (h'.push (seqObj "list" acc'.toList.toArray 0)).get? h'.objs.size = some (seqObj "list" acc'.toList.toArray 0) := Heap.get?_push_size _ rfl
  show wpAny _ _ _ _ _ { s with heap := h'.push (seqObj "list" acc'.toList.toArray 0), toks := tk }
  refine wpAny_bind (wpAny_holding (wpAny_call_entry PyProof.Rows.slot_list_sort ⟨_, hoL, rfl⟩ PyProof.Rows.entry_list_sort
    (Srt.list_sort_any (s := { s with heap := h'.push (seqObj "list" acc'.toList.toArray 0), toks := tk }) hoL hz (fun h2 => Srt.pairs_sortable (by omega) (fun v hv => ?_) fun o e => ?_) fun out hp => ⟨_, rfl, ?_⟩)
    (PyProof.Rows.args_list_sort _)))
  · obtain ⟨x, y, p⟩ := hpr v hv
    exact ⟨x, y, p.keeps fun b o e _ => Heap.get?_push_of_some _ e⟩
  · have e' : some o = some (seqObj "list" acc'.toList.toArray 0) := e.symm.trans hoL
    cases e'
    intro c
    exact absurd (Value.type.inj c) (by decide)
  · have h3 : ∀ u ∈ out, ∃ a, u = Value.ref a := fun u hu => hrefs u (hp.mem_iff.mp hu)
    obtain ⟨e', he'⟩ := PyProof.Rows.sortedHeap_at (vs := acc'.toList) (out := out.toArray) hoL
    have hlen : (out.map backV).length ≤ sizeLine := by rw [List.length_map, hp.length_eq]; exact hz
    refine wpAny_pure ⟨_, rfl, .ref h'.objs.size, upd H h'.objs.size (.lst (out.map backV)), I1.laid (t' := tk) (fun b u e => ?_) (Nat.le_refl _)
      (show ObjOk X.prog X.w _ _ _ (.lst (out.map backV)) from ⟨hlen, out, e', vals_back h3, he'⟩), rfl, q _ _ _ (I1.hok.fresh (Nat.le_refl _)) hkeys ?_⟩
    · have hb : b < h'.objs.size := Heap.lt_size e
      rw [PyProof.Rows.sortedHeap_old (Nat.ne_of_lt hb) (by rw [size_push']; exact Nat.lt_succ_of_lt hb)]
      exact Heap.get?_push_of_some _ e
    · have := hp.map backV
      rw [ea, List.map_map] at this
      rw [List.map_map]
      exact this
def rInTup (K : PySem.W.Frag) : R2 := fun x y H Q => ∃ d ds, Dp K H x d ∧ Dp K H y (.tuple ds) ∧ SeqAt.shaped d = true ∧ SeqAt.shaped (.tuple ds) = true ∧ d.depth ≤ 10 ∧ Q (.bl (ds.any fun z => PyData.eqv z d)) H
theorem op_inTup (hu : X.A.units + 64 < cLine) : OpR X (compareOp .In) (rInTup X.K) := by
  intro pins s σ H x y v u Q I rx ry h
  obtain ⟨d, ds, hd, he, sd, se, dd, q⟩ := h
  obtain ⟨as, r1⟩ := Dp.reads I d x v hd rx
  obtain ⟨bs, r2⟩ := Dp.reads I (.tuple ds) y u he ry
  exact SeqAt.in_tuple_reads r2 r1 (SeqAt.canLay_of_shaped se) (SeqAt.canLay_of_shaped sd) (by have := Nat.min_le_right (PyData.depthAll ds) d.depth; omega) ⟨.bl _, H, I, rfl, q⟩
def rNotInTup (K : PySem.W.Frag) : R2 := fun x y H Q => ∃ d ds, Dp K H x d ∧ Dp K H y (.tuple ds) ∧ SeqAt.shaped d = true ∧ SeqAt.shaped (.tuple ds) = true ∧ d.depth ≤ 10 ∧ Q (.bl (!ds.any fun z => PyData.eqv z d)) H
theorem op_notInTup (hu : X.A.units + 64 < cLine) : OpR X (compareOp .NotIn) (rNotInTup X.K) := by
  intro pins s σ H x y v u Q I rx ry h
  obtain ⟨d, ds, hd, he, sd, se, dd, q⟩ := h
  obtain ⟨as, r1⟩ := Dp.reads I d x v hd rx
  obtain ⟨bs, r2⟩ := Dp.reads I (.tuple ds) y u he ry
  exact SeqAt.notIn_tuple_reads r2 r1 (SeqAt.canLay_of_shaped se) (SeqAt.canLay_of_shaped sd) (by have := Nat.min_le_right (PyData.depthAll ds) d.depth; omega) ⟨.bl _, H, I, rfl, q⟩
def rInLst (K : PySem.W.Frag) : R2 := fun x y H Q => ∃ d ds, Dp K H x d ∧ Dp K H y (.list ds) ∧ SeqAt.shaped d = true ∧ SeqAt.shaped (.list ds) = true ∧ d.depth ≤ 10 ∧ Q (.bl (ds.any fun z => PyData.eqv z d)) H
theorem op_inLst (hu : X.A.units + 64 < cLine) : OpR X (compareOp .In) (rInLst X.K) := by
  intro pins s σ H x y v u Q I rx ry h
  obtain ⟨d, ds, hd, he, sd, se, dd, q⟩ := h
  obtain ⟨as, r1⟩ := Dp.reads I d x v hd rx
  obtain ⟨bs, r2⟩ := Dp.reads I (.list ds) y u he ry
  exact SeqAt.in_list_reads r2 r1 (SeqAt.canLay_of_shaped se) (SeqAt.canLay_of_shaped sd) (by have := Nat.min_le_right (PyData.depthAll ds) d.depth; omega) ⟨.bl _, H, I, rfl, q⟩
def rNotInLst (K : PySem.W.Frag) : R2 := fun x y H Q => ∃ d ds, Dp K H x d ∧ Dp K H y (.list ds) ∧ SeqAt.shaped d = true ∧ SeqAt.shaped (.list ds) = true ∧ d.depth ≤ 10 ∧ Q (.bl (!ds.any fun z => PyData.eqv z d)) H
theorem op_notInLst (hu : X.A.units + 64 < cLine) : OpR X (compareOp .NotIn) (rNotInLst X.K) := by
  intro pins s σ H x y v u Q I rx ry h
  obtain ⟨d, ds, hd, he, sd, se, dd, q⟩ := h
  obtain ⟨as, r1⟩ := Dp.reads I d x v hd rx
  obtain ⟨bs, r2⟩ := Dp.reads I (.list ds) y u he ry
  exact SeqAt.notIn_list_reads r2 r1 (SeqAt.canLay_of_shaped se) (SeqAt.canLay_of_shaped sd) (by have := Nat.min_le_right (PyData.depthAll ds) d.depth; omega) ⟨.bl _, H, I, rfl, q⟩
end
end DL

set_option maxHeartbeats 4000000
namespace DL
open PySem PySem.Spec PyProof.Rows L2 HT
/-! ### t[::-1] of a tuple -/
section
variable {prog : Program} {w : World} {A : Around} {E : Value → Shared → Prop} {s : Shared}
theorem places_rev (n : Nat) : Builtin.Slice.slicePlaces ((n : Int) - 1) (-1) (-1) = n := by
  unfold Builtin.Slice.slicePlaces
  rw [if_neg (by decide)]
  by_cases h : n = 0
  · subst h; rfl
  · rw [if_pos (by omega)]
    show (((n : Int) - 1 - (-1) - 1) / (- -1) + 1).toNat = n
    rw [show (- (-1 : Int)) = 1 from rfl, Int.ediv_one]; omega
theorem fm_congr {α β : Type} {f g : α → Option β} : ∀ {l : List α}, (∀ x ∈ l, f x = g x) → l.filterMap f = l.filterMap g
  | [], _ => rfl
  | x :: l, h => by
    rw [List.filterMap_cons, List.filterMap_cons, h x (List.mem_cons_self ..), fm_congr fun y hy => h y (List.mem_cons_of_mem _ hy)]
theorem pick_rev (xs : Array Value) : ((List.range xs.size).filterMap fun (m : Nat) => xs[((xs.size : Int) - 1 + (m : Int) * (-1)).toNat]?).toArray = xs.toList.reverse.toArray := by
  congr 1
  have e : ((List.range xs.size).filterMap fun (m : Nat) => xs[((xs.size : Int) - 1 + (m : Int) * (-1)).toNat]?) = (List.range xs.size).map fun m => xs.toList.getD (xs.size - 1 - m) .none := by
    rw [← List.filterMap_eq_map]
    refine fm_congr fun m hm => ?_
    have hm := List.mem_range.mp hm
    have e1 : ((xs.size : Int) - 1 + (m : Int) * (-1)).toNat = xs.size - 1 - m := by omega
    have hlt : xs.size - 1 - m < xs.toList.length := by rw [Array.length_toList]; omega
    rw [e1, ← Array.getElem?_toList, List.getElem?_eq_getElem hlt]
    simp only [Function.comp, List.getD_eq_getElem?_getD, List.getElem?_eq_getElem hlt, Option.getD_some]
  rw [e]
  apply List.ext_getElem?
  intro i
  by_cases hi : i < xs.size
  · rw [List.getElem?_map, List.getElem?_range hi, List.getElem?_reverse (by rw [Array.length_toList]; exact hi), Array.length_toList]
    have hlt : xs.size - 1 - i < xs.toList.length := by rw [Array.length_toList]; omega
    rw [List.getElem?_eq_getElem hlt]
    simp only [Option.map_some, List.getD_eq_getElem?_getD, List.getElem?_eq_getElem hlt, Option.getD_some]
  · rw [List.getElem?_eq_none (by simp; omega), List.getElem?_eq_none (by simp; omega)]
theorem sliceApplied_rev {sl : Addr} {vl vu vs : Value} {n : Nat} {Q : Int × Int × Nat → Shared → Prop} (hs : s.heap.IsSliceOf sl vl vu vs) (pl : IsPart vl none) (pu : IsPart vu none) (ps : IsPart vs (some (-1)))
    (h : Q ((n : Int) - 1, -1, n) s) : wpAny (model prog w) A (Builtin.Slice.sliceApplied (.ref sl) (pure (n : Int))) Q E s := by
  obtain ⟨os, hos, hcs, hds⟩ := id hs
  unfold Builtin.Slice.sliceApplied Builtin.Slice.sliceFields
  refine wpAny_bind (wpAny_bind (wpAny_field hos hds (x := vl) rfl (wpAny_bind (wpAny_field hos hds (x := vu) rfl (wpAny_bind (wpAny_field hos hds (x := vs) rfl (wpAny_pure ?_)))))))
  refine wpAny_bind (slicePart_ ps ?_)
  show wpAny _ _ (if ((-1 : Int) == 0) = true then _ else _) _ _ s
  rw [if_neg (by decide)]
  refine wpAny_bind (slicePart_ pl (wpAny_bind (slicePart_ pu (wpAny_bind (wpAny_pure ?_)))))
  show wpAny _ _ (pure ((n : Int) - 1, (-1 : Int), Builtin.Slice.slicePlaces ((n : Int) - 1) (-1) (-1))) _ _ s
  rw [places_rev]
  exact wpAny_pure h
theorem getItem_tuple_rev {t sl : Addr} {items : Array Value} {vl vu vs : Value} {Q : Value → Shared → Prop} (ht : IsTup s.heap t items) (hs : s.heap.IsSliceOf sl vl vu vs) (pl : IsPart vl none) (pu : IsPart vu none) (ps : IsPart vs (some (-1)))
    (h : Q (.ref s.heap.objs.size) { s with heap := s.heap.push { cls := .type "tuple", data := .seq items.toList.reverse.toArray } })
    (hsz : items.size ≤ sizeLine) : wpAny (model prog w) A (getItem (.ref t) (.ref sl)) Q E s := by
  have htake : sizeOk (.seq items.toList.reverse.toArray) := by
    show items.toList.reverse.toArray.size ≤ sizeLine
    rw [List.size_toArray, List.length_reverse, Array.length_toList]
    exact hsz
  obtain ⟨os, hos, hcs, hds⟩ := id hs
  have hTs : s.TypeIs (.ref sl) "slice" := ⟨os, hos, hcs⟩
  unfold getItem
  try with_reducible refine wpAny_holding ?_
  first | refine wpAny_bind (wpAny_pure ?_) | skip
  refine wpAny_bind (wpAny_sequenceKey ht.typeIs (by decide) ?_)
  refine wpAny_bind (wpAny_callSpecial?_slot (name := Str.ofString "__getitem__") ht.typeIs PyProof.Rows.slot_tuple_getitem
    (wpAny_call_entry PyProof.Rows.slot_tuple_getitem ht.typeIs entry_tuple_getitem ?_ (args_tuple_getitem _ _)))
  show wpAny _ _ (Builtin.Tuple.tupleItemsOf (.ref t) >>= _) _ _ s
  refine wpAny_bind (tupleItemsOf_ ht ?_)
  refine wpAny_bind (wpAny_typeOf hTs ?_)
  rw [if_pos (by decide)]
  refine wpAny_bind (sliceApplied_rev hs pl pu ps ?_)
  have hno : ¬ ((((items.size : Int) - 1) == 0 && (-1 : Int) == 1 && items.size == items.size) = true) := by
    intro q
    rw [Bool.and_eq_true, Bool.and_eq_true] at q
    exact absurd q.1.2 (by decide)
  show wpAny _ _ (if (((items.size : Int) - 1) == 0 && (-1 : Int) == 1 && items.size == items.size) = true then _ else _) _ _ s
  rw [if_neg hno, pick_rev]
  first
    | exact wpAny_bind (m := Builtin.Tuple.tupleExact _) (wpAny_newObj_type (wpAny_pure ⟨_, rfl, wpAny_pure h⟩) htake)
    | exact wpAny_bind (m := Builtin.Tuple.tupleExact _) (wpAny_newObj_type (wpAny_bind (wpAny_pure (wpAny_pure ⟨_, rfl, wpAny_pure h⟩))) htake)
    | exact wpAny_bind (wpAny_bind (m := Builtin.Tuple.tupleExact _) (wpAny_newObj_type (wpAny_pure (wpAny_pure ⟨_, rfl, wpAny_pure h⟩)) htake))
    | exact wpAny_bind (wpAny_bind (m := Builtin.Tuple.tupleExact _) (wpAny_newObj_type (wpAny_pure ⟨_, rfl, wpAny_pure h⟩) htake))
end
section
variable {X : Cx}
def tRevT (K : PySem.W.Frag) (te : TE) : TE := fun σ H Q => te σ H fun x H1 => ∃ a xs, x = .ref a ∧ SqT K H1 a xs ∧ ∀ p, H1 p = none → Q (.ref p) (upd H1 p (.tup xs.reverse))
theorem pe_revT {e : Expr} {te : TE} {k : Nat} {p1 p2 p3 pos : Pos} (he : PE X e te) : PE X (.Subscript e (.Slice none none (some (.UnaryOp .USub (.Constant (.int 1) k p1) p2)) p3) pos) (tRevT X.K te) := by
  refine ⟨fun pins s σ H Q I h => ?_⟩
  refine Subscript_ (thn (he.run pins s σ H _ I h) fun v s1 ⟨x, H1, I1, r1, q1⟩ => ?_)
  obtain ⟨a, xs, ex, hx, q⟩ := q1
  subst ex
  cases r1
  have hst : PO X (some (.UnaryOp .USub (.Constant (.int 1) k p1) p2)) (tPart (tUn (rU fun i => .int (-i)) (tC (.int 1)))) := po_some (pe_un un_neg pe_int)
  refine wpAny_Slice (thn (po_none.run pins s1 σ H1 (fun o H2 => o = none ∧ H2 = H1) I1 ⟨rfl, rfl⟩) fun vl s2 ⟨l, H2, I2, pl, el, e2⟩ => ?_)
  subst el e2
  refine thn (po_none.run pins s2 σ H2 (fun o H3 => o = none ∧ H3 = H2) I2 ⟨rfl, rfl⟩) fun vu s3 ⟨u, H3, I3, pu, eu, e3⟩ => ?_
  subst eu e3
  refine thn (hst.run pins s3 σ H3 (fun o H4 => o = some (-1) ∧ H4 = H3) I3 ⟨1, rfl, -1, rfl, rfl, rfl⟩) fun vs s4 ⟨o, H4, I4, ps, eo, e4⟩ => ?_
  subst eo e4
  have I5 : Inv X pins σ H4 { s4 with heap := s4.heap.push { cls := .type "slice", data := .fields #[vl, vu, vs] } } := I4.kept (t' := s4.toks) fun b ob q => Heap.get?_push_of_some _ q
  obtain ⟨its, r, ht, hz⟩ := I5.tuple hx
  have hlen := r.length
  show wpAny (model X.prog X.w) X.A (subscriptTail e (.Slice none none (some (.UnaryOp .USub (.Constant (.int 1) k p1) p2)) p3) (.ref a) (.ref s4.heap.objs.size)) (EP X pins σ Q) X.xe { s4 with heap := s4.heap.push { cls := .type "slice", data := .fields #[vl, vu, vs] } }
  refine tail_any (ops := [.ref a, .ref s4.heap.objs.size]) ht.typeIs (PyProof.Rows.slot_tuple_getitem.lookup) ?_ (by with_unfolding_all rfl)
  refine getItem_tuple_rev ht (Heap.IsSliceOf.new _ vl vu vs) pl pu ps ?_ (by rw [List.size_toArray]; omega)
  refine ⟨.ref _, _, I5.laid (t' := s4.toks) (o := .tup xs.reverse) (fun b ob q => Heap.get?_push_of_some _ q) (Nat.le_refl _) ?_, rfl, q _ (I5.hok.fresh (Nat.le_refl _))⟩
  exact ⟨by rw [List.length_reverse]; exact hz, _, r.reverse, ⟨_, Heap.get?_push_size _ rfl, rfl, 0, rfl⟩⟩
end
/-! ### data with empty dicts -/
mutual
def noLst : PyData → Bool
  | .list _ => false
  | .tuple xs => noLsts xs
  | .dict kvs => kvs.isEmpty
  | _ => true
def noLsts : List PyData → Bool
  | [] => true
  | x :: xs => noLst x && noLsts xs
end
mutual
inductive DpE (K : PySem.W.Frag) (H : Hp) : V → PyData → Prop
  | non : DpE K H .non .none
  | bl (b : Bool) : DpE K H (.bl b) (.bool b)
  | int (i : Int) : DpE K H (.int i) (.int i)
  | str (x : Str) : DpE K H (.str x) (.str x)
  | lst {a : Addr} {xs : List V} {ds : List PyData} : SqL K H a xs → DpEs K H xs ds → DpE K H (.ref a) (.list ds)
  | tup {a : Addr} {xs : List V} {ds : List PyData} : SqT K H a xs → DpEs K H xs ds → DpE K H (.ref a) (.tuple ds)
  | dct {a : Addr} : Rd H a (.dT []) → DpE K H (.ref a) (.dict [])
inductive DpEs (K : PySem.W.Frag) (H : Hp) : List V → List PyData → Prop
  | nil : DpEs K H [] []
  | cons {v : V} {vs : List V} {d : PyData} {ds : List PyData} : DpE K H v d → DpEs K H vs ds → DpEs K H (v :: vs) (d :: ds)
end
section
variable {X : Cx} {pins : List (Addr × Obj)} {σ : L2.St} {H : Hp} {s : Shared}
mutual
theorem DpE.reads (I : Inv X pins σ H s) : ∀ (d : PyData) (v : V) (u : Value), DpE X.K H v d → RelV v u → ∃ as, Reads s.heap u d as ∧ (noLst d = true → sysModules ∉ as)
  | .none, _, _, h, r => by
    cases h
    cases r
    exact ⟨_, Reads.none, by simp⟩
  | .bool b, _, _, h, r => by
    cases h
    cases r
    exact ⟨_, Reads.bool b, by simp⟩
  | .int i, _, _, h, r => by
    cases h
    obtain ⟨t, rfl⟩ := r
    exact ⟨_, Reads.int i t, by simp⟩
  | .str x, _, _, h, r => by
    cases h
    obtain ⟨t, rfl⟩ := r
    exact ⟨_, Reads.str x t, by simp⟩
  | .list ds, _, _, h, r => by
    cases h with
    | lst hs ha =>
      cases r
      obtain ⟨its, rv, ⟨o, n, ho, hc, _, hd⟩, _⟩ := I.list hs
      obtain ⟨as, hr, _⟩ := DpE.readsAll I ds _ its ha rv
      exact ⟨_, Reads.list ho hc hd hr, fun z => by simp [noLst] at z⟩
  | .tuple ds, _, _, h, r => by
    cases h with
    | tup hs ha =>
      cases r
      obtain ⟨its, rv, ⟨o, ho, hc, n, hd⟩, _⟩ := I.tuple hs
      obtain ⟨as, hr, hn⟩ := DpE.readsAll I ds _ its ha rv
      exact ⟨_, Reads.tuple ho hc hd hr, fun z => hn (by simpa [noLst] using z)⟩
  | .dict kvs, _, _, h, r => by
    cases h with
    | dct hd =>
      cases r
      rename_i a
      obtain ⟨z, hs, ks, pr, o, es, ep, ho, hx, hdt, he, hn⟩ := (show ObjOk X.prog X.w H s.heap a (.dT []) from hd.ok I.hok)
      cases pr
      have hes : es.toList = [] := he
      refine ⟨_, Reads.dict (kvs := []) (as := []) (bs := []) ho hx.1 hdt (by rw [hes]; exact ReadsAll.nil) (by rw [hes]; exact ReadsAll.nil), fun _ => ?_⟩
      intro hm
      have : sysModules = a := by simpa using hm
      rw [this] at hs
      simp at hs
theorem DpE.readsAll (I : Inv X pins σ H s) : ∀ (ds : List PyData) (vs : List V) (us : List Value), DpEs X.K H vs ds → Vals vs us → ∃ as, ReadsAll s.heap us ds as ∧ (noLsts ds = true → sysModules ∉ as)
  | [], _, _, h, r => by
    cases h
    cases r
    exact ⟨_, ReadsAll.nil, by simp⟩
  | d :: ds, _, _, h, r => by
    cases h with
    | cons h1 h2 =>
      cases r with
      | cons r1 r2 =>
        obtain ⟨as, q1, n1⟩ := DpE.reads I d _ _ h1 r1
        obtain ⟨bs, q2, n2⟩ := DpE.readsAll I ds _ _ h2 r2
        refine ⟨_, ReadsAll.cons q1 q2, fun z => ?_⟩
        simp only [noLsts, Bool.and_eq_true] at z
        intro hm
        rcases List.mem_append.mp hm with h | h
        · exact n1 z.1 h
        · exact n2 z.2 h
end
end
structure RepOkE (p : PyData) : Prop where
  sh : p.showable = true
  dp : p.depth ≤ 50
  nd : p.hasDict = false ∨ noLst p = true
  sz : p.shown.length ≤ sizeLine
section
variable {X : Cx}
theorem call_reprE (hG : X.A.guards = some []) (hu : X.A.units + 64 < cLine) : CallR X (.builtin "repr") (fun xs H Q => ∃ v d, xs = [v] ∧ DpE X.K H v d ∧ RepOkE d ∧ Q (.str d.shown) H) := by
  intro pins s σ H xs us Q I r h
  obtain ⟨v, d, rfl, hd, ok, q⟩ := h
  obtain ⟨u, rfl, ru⟩ := vals1 r
  obtain ⟨as, rd, hn⟩ := DpE.reads I d v u hd ru
  have dep := ok.dp
  have hsm : d.hasDict = true → sysModules ∉ as := fun z => by
    rcases ok.nd with h | h
    · rw [h] at z; cases z
    · exact hn h
  cases hd with
  | int i => obtain ⟨t, rfl⟩ := ru; exact PySem.P.repr_of_int (by have := ok.sh; simpa [PyData.showable] using this) ⟨.str _, H, I.tok _, ⟨_, rfl⟩, q⟩
  | lst h1 h2 =>
    cases ru
    refine repr_of_reads' rd ok.sh hsm hG (by omega) (fun _ _ e => e) (fun h' t tk hk => ?_) ok.sz
    exact ⟨.str _, H, I.kept hk, ⟨_, rfl⟩, q⟩
  | tup h1 h2 =>
    cases ru
    refine repr_of_reads' rd ok.sh hsm hG (by omega) (fun _ _ e => e) (fun h' t tk hk => ?_) ok.sz
    exact ⟨.str _, H, I.kept hk, ⟨_, rfl⟩, q⟩
  | dct h1 =>
    cases ru
    refine repr_of_reads' rd ok.sh hsm hG (by omega) (fun _ _ e => e) (fun h' t tk hk => ?_) ok.sz
    exact ⟨.str _, H, I.kept hk, ⟨_, rfl⟩, q⟩
  | non => cases ru; exact PySem.P.repr_of_none ⟨.str _, H, I.tok _, ⟨_, rfl⟩, q⟩
  | bl b => cases ru; exact PySem.P.repr_of_bool ⟨.str _, H, I.tok _, ⟨_, rfl⟩, (by cases b <;> exact q)⟩
  | str y => obtain ⟨t, rfl⟩ := ru; exact PySem.P.repr_of_str ⟨.str _, H, I.tok _, ⟨_, rfl⟩, q⟩ ok.sz
end
/-! ### a list beside the empty one -/
section
variable {X : Cx}
def rNeNil (K : PySem.W.Frag) : R2 := fun x y H Q => ∃ (a b : Addr) (xs : List V), x = .ref a ∧ y = .ref b ∧ SqL K H a xs ∧ SqL K H b [] ∧ Q (.bl (!xs.isEmpty)) H
theorem op_neNil (hu : X.A.units + 64 < cLine) : OpR X (compareOp .NotEq) (rNeNil X.K) := by
  intro pins s σ H x y v u Q I rx ry h
  obtain ⟨a, b, xs, rfl, rfl, ha, hb, q⟩ := h
  cases rx
  cases ry
  obtain ⟨its, rv, hl, hz⟩ := I.list ha
  obtain ⟨its2, rv2, hl2, hz2⟩ := I.list hb
  cases rv2
  cases rv with
  | nil => exact SeqAt.RcNeAt.lists (e := fun _ => true) hl.isList hl2.isList rfl (by omega) (fun j h1 => absurd h1 (by simp)) X.prog X.w _ _ ⟨.bl _, H, I, rfl, q⟩
  | cons r1 r2 => exact SeqAt.RcNeAt.lists_lengths hl.isList hl2.isList (by simp) (by omega) X.prog X.w _ _ ⟨.bl _, H, I, rfl, q⟩
end
end DL

set_option maxHeartbeats 4000000
namespace DL
open PySem PySem.Spec PyProof.Rows L2
/-! ### sorted(d), d a dict with keys of a text and a whole number -/
section
variable {X : Cx}
def SI (k : List L2.Key) : Prop := ∃ (x : Str) (j : Int), k = [Sum.inr x, Sum.inl j]
def rSortDS : List V → Hp → VK → Prop := fun xs H Q => ∃ d kvs, xs = [V.ref d] ∧ Rd H d (.dT kvs) ∧ (∀ p ∈ kvs, SI p.1) ∧ ∀ (p : Addr) (ys : List V) (bs : List Addr), H p = none → IsKeys H kvs bs → ys.Perm (bs.map V.ref) → Q (.ref p) (upd H p (.lst ys))
def keyP : L2.Key → PyData
  | .inl i => .int i
  | .inr x => .str x
theorem paired_SI {H : Hp} : ∀ {kvs : List (List L2.Key × V)} {ks : List (List L2.Key × Addr × Value)}, Paired (fun (p : List L2.Key × V) (q : List L2.Key × Addr × Value) => p.1 = q.1 ∧ H q.2.1 = some (.tup (p.1.map kV)) ∧ RelV p.2 q.2.2) kvs ks → (∀ p ∈ kvs, SI p.1) → ∀ x ∈ ks, ∃ (y : Str) (j : Int), x.1 = [Sum.inr y, Sum.inl j] ∧ H x.2.1 = some (.tup [.str y, .int j])
  | _, _, .nil, _, x, hx => absurd hx (by simp)
  | p :: kvs, c :: ks, .cons h t, hp, x, hx => by
    rcases List.mem_cons.mp hx with rfl | hx
    · obtain ⟨i, j, e⟩ := hp p (List.mem_cons_self ..)
      obtain ⟨h1, h2, _⟩ := h
      rw [e] at h1 h2
      exact ⟨i, j, h1.symm, h2⟩
    · exact paired_SI t (fun q hq => hp q (List.mem_cons_of_mem _ hq)) x hx
def encK (x : List L2.Key × Addr × Value) : PyData := .tuple (x.1.map keyP)
theorem each_ref {α : Type} (g : α → Addr) : ∀ {out : List Value} {bs : List α}, PySem.W.EachIs (fun v x => v = Value.ref (g x)) out bs → out = bs.map fun x => Value.ref (g x)
  | _, _, .nil => rfl
  | _, _, .cons h t => by rw [h, each_ref g t]; rfl
theorem each_of {α β : Type} {R : α → β → Prop} (f : β → α) : ∀ (bs : List β), (∀ b ∈ bs, R (f b) b) → PySem.W.EachIs R (bs.map f) bs
  | [], _ => .nil
  | b :: bs, h => .cons (h b (List.mem_cons_self ..)) (each_of f bs fun x hx => h x (List.mem_cons_of_mem _ hx))
theorem cr_sortedDS (hc : X.calm = true) (hu : X.A.units + 64 < cLine) : CallR X (.builtin "sorted") rSortDS := by
  intro pins s σ H xs us Q I r h
  obtain ⟨d, kvs, rfl, hd, hpair, q⟩ := h
  obtain ⟨u, rfl, rx⟩ := r.one
  cases rx
  obtain ⟨z, hs, ks, pr, o, es, ep, ho, hx, hdt, he, hn⟩ := (show ObjOk X.prog X.w H s.heap d (.dT kvs) from hd.ok I.hok)
  have l1 : es.size = ks.length := size_of_entries he
  have l2 : kvs.length = ks.length := Paired.length pr
  refine Calls.call_function_entry PyProof.Rows.kind_sorted PyProof.Rows.plain_sorted PyProof.Rows.entry_sorted (PyProof.Rows.args_sorted1 _) ?_
  unfold Builtin.«sorted»
  refine wpAny_bind (m := checkCount "sorted" 1 1 _) (wpAny_pure ?_)
  refine wpAny_bind (PySem.W.kdu_collect (A := X.A.in1) (kdl_raw hs hx hdt) (I.ok.hd hc) ho (by omega) fun h' tk acc' kp it => ?_)
  have ea : acc'.toList = ks.map fun x => Value.ref x.2.1 := by
    have hl : acc'.toList.length = ks.length := by rw [Array.length_toList, it.1]; exact l1
    apply List.ext_getElem?
    intro j
    rw [List.getElem?_map]
    cases hj : acc'.toList[j]? with
    | none =>
      have h1 := List.getElem?_eq_none_iff.mp hj
      rw [List.getElem?_eq_none (by omega)]
      all_goals rfl
    | some v =>
      obtain ⟨en, hen, hv⟩ := it.2 j v (by rw [← Array.getElem?_toList]; exact hj)
      have qe := entry_at he j
      rw [hen] at qe
      cases hb : ks[j]? with
      | none =>
        rw [hb] at qe
        exact nomatch (show some en = none from qe)
      | some b =>
        rw [hb] at qe
        have e2 : en = entryOfKey (tupleKind (mixKind X.prog X.w)) b := Option.some.inj qe
        rw [hv, e2]
        all_goals rfl
  have hl : acc'.toList.length = ks.length := by rw [ea, List.length_map]
  have hz : acc'.toList.length ≤ sizeLine := by omega
  have I1 : Inv X pins σ H { s with heap := h', toks := tk } := I.kept kp
  have hkeys := isKeys_of pr
  have hrefs : ∀ v ∈ acc'.toList, ∃ a, v = Value.ref a := fun v hv => by
    rw [ea] at hv
    obtain ⟨x, _, rfl⟩ := List.mem_map.mp hv
    exact ⟨_, rfl⟩
  have hSI := paired_SI pr hpair
  have hrd : ∀ x ∈ ks, ∀ h2 : Heap, (∀ b o, h'.get? b = some o → h2.get? b = some o) → Reads h2 (.ref x.2.1) (encK x) [] := fun x hx h2 k2 => by
    obtain ⟨y, j, e1, ht⟩ := hSI x hx
    obtain ⟨_, its2, r2, o, ho, hc, n, hd⟩ := I1.hok _ _ ht
    obtain ⟨u1, u2, rfl, ri, rj⟩ := vals2 r2
    obtain ⟨t1, rfl⟩ := ri
    obtain ⟨t2, rfl⟩ := rj
    unfold encK
    rw [e1]
    exact .tuple (k2 _ _ ho) hc hd (.cons (.str _ _) (.cons (.int _ _) .nil))
  have hal : PySem.W.AllAlike (ks.map encK) := fun d hd d' hd' => by
    obtain ⟨x, hx, rfl⟩ := List.mem_map.mp hd
    obtain ⟨x', hx', rfl⟩ := List.mem_map.mp hd'
    obtain ⟨y, j, e1, _⟩ := hSI x hx
    obtain ⟨y', j', e2, _⟩ := hSI x' hx'
    unfold encK
    rw [e1, e2]; rfl
  have hsr : PySem.W.Sortable (ks.map encK) := .inl fun d hd => by
    obtain ⟨x, hx, rfl⟩ := List.mem_map.mp hd
    obtain ⟨y, j, e1, _⟩ := hSI x hx
    unfold encK
    rw [e1]; exact ⟨_, _, rfl⟩
  refine wpAny_bind (wpAny_newList ?_ hz)
  have hoL : (h'.push (seqObj "list" acc'.toList.toArray 0)).get? h'.objs.size = some (seqObj "list" acc'.toList.toArray 0) := Heap.get?_push_size _ rfl
  have kL : ∀ b o, h'.get? b = some o → (h'.push (seqObj "list" acc'.toList.toArray 0)).get? b = some o := fun b o e => Heap.get?_push_of_some _ e
  show wpAny _ _ _ _ _ { s with heap := h'.push (seqObj "list" acc'.toList.toArray 0), toks := tk }
  have e1 : PySem.W.EachIs (fun (v : Value) (x : List L2.Key × Addr × Value) => v = Value.ref x.2.1) acc'.toList ks := by rw [ea]; exact each_of (R := fun (v : Value) (x : List L2.Key × Addr × Value) => v = Value.ref x.2.1) (fun x => Value.ref x.2.1) ks fun _ _ => rfl
  have e2 : PySem.W.EachIs (fun (v : Value) (x : List L2.Key × Addr × Value) => ∃ as, Reads (h'.push (seqObj "list" acc'.toList.toArray 0)) v (encK x) as ∧ h'.objs.size ∉ as) acc'.toList ks := by
    have := each_of (R := fun (v : Value) (x : List L2.Key × Addr × Value) => ∃ as, Reads (h'.push (seqObj "list" acc'.toList.toArray 0)) v (encK x) as ∧ h'.objs.size ∉ as) (fun x => Value.ref x.2.1) ks fun x hx => ⟨[], hrd x hx _ kL, by simp⟩
    rw [← ea] at this; exact this
  refine wpAny_bind (wpAny_holding (PySem.W.list_sort_data (s := { s with heap := h'.push (seqObj "list" acc'.toList.toArray 0), toks := tk }) (R := fun v x => v = Value.ref x.2.1) (bs := ks) (enc := encK) hoL e1 e2 hal hsr (by omega) (fun x hx => ?_) fun out hlo hE => ?_))
  · obtain ⟨y, j, e1, _⟩ := hSI x hx
    unfold encK
    rw [e1]
    have h1 : (PyData.tuple ([Sum.inr y, Sum.inl j].map keyP)).depth ≤ 5 := Nat.le_of_ble_eq_true rfl
    have h2 : X.A.in1.units = X.A.units + 1 := rfl
    omega
  · have eo := each_ref (fun x : List L2.Key × Addr × Value => x.2.1) hE
    have hp : out.Perm acc'.toList := by rw [ea, eo]; exact (List.mergeSort_perm ks _).map _
    have h3 : ∀ u ∈ out, ∃ a, u = Value.ref a := fun u hu => hrefs u (hp.mem_iff.mp hu)
    obtain ⟨e', he'⟩ := PyProof.Rows.sortedHeap_at (vs := acc'.toList) (out := out.toArray) hoL
    have hlen : (out.map backV).length ≤ sizeLine := by rw [List.length_map, hp.length_eq]; exact hz
    refine wpAny_pure ⟨_, rfl, .ref h'.objs.size, upd H h'.objs.size (.lst (out.map backV)), I1.laid (t' := tk) (fun b u e => ?_) (Nat.le_refl _)
      (show ObjOk X.prog X.w _ _ _ (.lst (out.map backV)) from ⟨hlen, out, e', vals_back h3, he'⟩), rfl, q _ _ _ (I1.hok.fresh (Nat.le_refl _)) hkeys ?_⟩
    · have hb : b < h'.objs.size := Heap.lt_size e
      rw [PyProof.Rows.sortedHeap_old (Nat.ne_of_lt hb) (by rw [size_push']; exact Nat.lt_succ_of_lt hb)]
      exact Heap.get?_push_of_some _ e
    · have := hp.map backV
      rw [ea, List.map_map] at this
      rw [List.map_map]
      exact this
end
/-! ### {k: v}, k a tuple -/
def tDisp1 (tk tv : TE) : TE := fun σ H Q => ∀ p, H p = none → tk σ (upd H p (.dT [])) fun x H1 => tv σ H1 fun y H2 => H2 p = some (.dT []) ∧ ∃ b ks, x = .ref b ∧ H2 b = some (.tup (ks.map kV)) ∧ Q (.ref p) (upd H2 p (.dT [(ks, y)]))
theorem pe_disp1 {X : Cx} {k v : Expr} {pos : Pos} {tk tv : TE} (hu : X.A.units + 64 < cLine) (hk : PE X k tk) (hv : PE X v tv) : PE X (.Dict [some k] [v] pos) (tDisp1 tk tv) := by
  refine ⟨fun pins s σ H Q I q => ?_⟩
  have hn := I.hok.fresh (Nat.le_refl s.heap.objs.size)
  have I1 := I.laid (a := s.heap.objs.size) (o := .dT []) (h' := s.heap.push { cls := .type "dict", data := .dict #[] }) (t' := s.toks) (fun _ _ q => Heap.get?_push_of_some _ q) (Nat.le_refl _) (dt_empty s.heap I.big)
  rw [arm_eval_Dict, zip_pairTrees [some k] [v] X.env pos rfl rfl, dictDisplay_pairs _ (by simp [pairTrees]) (by simp [pairTrees])]
  refine wpAny_bind (wpAny_standAt (wpAny_bind (wpAny_subDictH (knd := tupleKind (mixKind X.prog X.w)) (Q := fun d s' => wpAny (model X.prog X.w) X.A (pure (Value.ref d)) (EP X pins σ Q) X.xe s') ?_ (by simp [pairTrees]) ?_)))
  · show X.A.units < cLine
    omega
  refine pairTrees_cons_walk (thn (hk.run pins _ σ _ _ I1 (q _ hn)) fun u s1 ⟨x, H1, I2, rx, q1⟩ => thn (hv.run pins s1 σ H1 _ I2 q1) fun w2 s2 ⟨y, H2, I3, ry, q2⟩ => pairTrees_nil_walk ?_)
  obtain ⟨e, b, ks, rfl, eb, q3⟩ := q2
  cases (show u = Value.ref b from rx)
  obtain ⟨z, hd, xs, rel, dd⟩ := dt_of I3.hok e
  cases rel
  refine ⟨[(ks, b, w2)], ⟨rfl, rfl, key_of I3.hok eb, trivial⟩, dd, fun h' tk dd' hs => wpAny_pure ?_⟩
  obtain ⟨o, es, ep, hq, h2, h3, h4, _, h5⟩ := dd'
  refine ⟨.ref s.heap.objs.size, upd H2 s.heap.objs.size (.dT [(ks, y)]), d_write (t' := tk) (ob := .dT [(ks, y)]) I3 (by rw [e]; exact True.intro) hs ⟨o, hq⟩ ⟨by show 1 ≤ sizeLine; decide, hd, [(ks, b, w2)], .cons ⟨rfl, ?_, ry⟩ .nil, o, es, ep, hq, h2, h3, h4, h5⟩, rfl, q3⟩
  rw [upd_ne (ne_of eb e (fun z => nomatch z))]
  exact eb
end DL

set_option maxHeartbeats 4000000
namespace DL
open PySem PySem.Spec PyProof.Rows L2
/-! ### sorted(t), t a tuple of ints; sorted(xs), xs a list of tuples of ints -/
section
variable {X : Cx}
def rSortTI (K : PySem.W.Frag) : List V → Hp → VK → Prop := fun vs H Q => ∃ (a : Addr) (ns : List Int), vs = [V.ref a] ∧ SqT K H a (ns.map V.int) ∧
  ∀ (ns' : List Int) (p : Addr), ns'.Perm ns → ns'.Pairwise (· ≤ ·) → H p = none → Q (.ref p) (upd H p (.lst (ns'.map V.int)))
theorem cr_sortedTI : CallR X (.builtin "sorted") (rSortTI X.K) := by
  intro pins s σ H xs us Q I r h
  obtain ⟨a, ns, rfl, hs, q⟩ := h
  obtain ⟨u, rfl, rx⟩ := r.one
  cases rx
  obtain ⟨its, rv, pl, hz⟩ := I.tuple hs
  have hi := rv.ints
  have hlen := rv.length
  obtain ⟨o, ho, hc, n, hd⟩ := pl
  have hz' : its.length ≤ sizeLine := by omega
  refine Calls.call_function_entry PyProof.Rows.kind_sorted PyProof.Rows.plain_sorted PyProof.Rows.entry_sorted (PyProof.Rows.args_sorted1 _) ?_
  unfold Builtin.«sorted»
  refine wpAny_bind (m := checkCount "sorted" 1 1 _) (wpAny_pure ?_)
  refine wpAny_bind (wpAny_collect_seq a (.inr rfl) ho hc hd (fun h' kp => ?_) (by simpa using hz'))
  have I1 : Inv X pins σ H { s with heap := h' } := I.kept (t' := s.toks) kp
  refine wpAny_bind (wpAny_newList ?_ hz')
  have hoL : (h'.push (seqObj "list" its.toArray 0)).get? h'.objs.size = some (seqObj "list" its.toArray 0) := Heap.get?_push_size _ rfl
  show wpAny _ _ _ _ _ { s with heap := h'.push (seqObj "list" its.toArray 0) }
  refine wpAny_bind (wpAny_holding (wpAny_call_entry PyProof.Rows.slot_list_sort ⟨_, hoL, rfl⟩ PyProof.Rows.entry_list_sort
    (SrtO.list_sort_ord (s := { s with heap := h'.push (seqObj "list" its.toArray 0) }) SrtO.swo_int hoL hz' (fun h2 => SrtO.ints_sortable hi h2) fun out hs hb => ⟨_, rfl, ?_⟩)
    (PyProof.Rows.args_list_sort _)))
  obtain ⟨k1, k2, k3⟩ := SrtO.ints_out hi hs hb
  obtain ⟨e', he'⟩ := PyProof.Rows.sortedHeap_at (vs := its) (out := out.toArray) hoL
  have hl2 : ((out.map SrtO.iv).map V.int).length ≤ sizeLine := by
    rw [List.length_map, k2.length_eq]
    rw [List.length_map] at hlen
    omega
  refine wpAny_pure ⟨_, rfl, .ref h'.objs.size, upd H h'.objs.size (.lst ((out.map SrtO.iv).map V.int)), I1.laid (t' := s.toks) (fun b u e => ?_) (Nat.le_refl _)
    (show ObjOk X.prog X.w _ _ _ (.lst ((out.map SrtO.iv).map V.int)) from ⟨hl2, out, e', vals_of_ints k1, he'⟩), rfl, q _ _ k2 k3 (I1.hok.fresh (Nat.le_refl _))⟩
  have hb : b < h'.objs.size := Heap.lt_size e
  rw [PyProof.Rows.sortedHeap_old (Nat.ne_of_lt hb) (by rw [size_push']; exact Nat.lt_succ_of_lt hb)]
  exact Heap.get?_push_of_some _ e
def encI (b : V × List Int) : PyData := .tuple (b.2.map PyData.int)
def rSortLT (K : PySem.W.Frag) : List V → Hp → VK → Prop := fun vs H Q => ∃ (a : Addr) (bs : List (V × List Int)), vs = [V.ref a] ∧ SqL K H a (bs.map (·.1)) ∧ (∀ b ∈ bs, b.2 ≠ [] ∧ Dp K H b.1 (encI b)) ∧
  ∀ (bs' : List (V × List Int)) (p : Addr), bs'.Perm bs → bs'.Pairwise (fun x y => x.2 ≤ y.2) → H p = none → Q (.ref p) (upd H p (.lst (bs'.map (·.1))))
theorem eachI : ∀ {bs : List (V × List Int)} {its : List Value}, Vals (bs.map (·.1)) its → PySem.W.EachIs (fun v (b : V × List Int) => RelV b.1 v) its bs
  | [], _, h => by cases h; exact .nil
  | _ :: _, _, h => by cases h with | cons a b => exact .cons a (eachI b)
theorem valsI : ∀ {bs : List (V × List Int)} {out : List Value}, PySem.W.EachIs (fun v (b : V × List Int) => RelV b.1 v) out bs → Vals (bs.map (·.1)) out
  | _, _, .nil => .nil
  | _, _, .cons a b => .cons a (valsI b)
theorem alike_i : ∀ a b : List Int, PySem.W.alikeAll (a.map PyData.int) (b.map PyData.int) = true
  | [], _ => rfl
  | _ :: _, [] => rfl
  | x :: a, y :: b => by
    simp only [List.map_cons]
    rw [PySem.W.alikeAll, alike_i a b]; rfl
theorem depth_i : ∀ xs : List Int, PyData.depthAll (xs.map PyData.int) = 0
  | [] => rfl
  | x :: xs => by simp only [List.map_cons, PyData.depthAll, PyData.depth, depth_i xs]; rfl
theorem le_i (a b : V × List Int) : PySem.W.dataLe false encI a b = decide (a.2 ≤ b.2) := by
  show (!PySem.W.dataLt (.tuple (b.2.map .int)) (.tuple (a.2.map .int))) = _
  rw [PySem.W.dataLt_tuple]
  show (!PySem.W.rowLt (b.2.map .int) (a.2.map .int)) = _
  rw [PySem.W.dataLt_ints]
  by_cases h : b.2 < a.2
  · have h' : ¬ a.2 ≤ b.2 := fun r => List.not_lt.mpr r h
    simp [h, h']
  · have h' : a.2 ≤ b.2 := List.not_lt.mp h
    simp [h, h']
theorem cr_sortedLT (hu : X.A.units + 64 < cLine) : CallR X (.builtin "sorted") (rSortLT X.K) := by
  intro pins s σ H xs us Q I r h
  obtain ⟨a, bs, rfl, hs, hb, q⟩ := h
  obtain ⟨its, rv, hl, hz⟩ := I.list hs
  rw [Vals.ref1 r]
  have er : ∀ {bs : List (V × List Int)} {its : List Value}, Vals (bs.map (·.1)) its → (∀ b ∈ bs, Dp X.K H b.1 (encI b)) → PySem.W.EachIs (fun v b => ∃ as, Reads s.heap v (encI b) as) its bs := by
    intro bs
    induction bs with
    | nil => intro its h _; cases h; exact .nil
    | cons b bs ih =>
      intro its h hd
      cases h with
      | cons h1 h2 => exact .cons (Dp.reads I _ _ _ (hd b (List.mem_cons_self ..)) h1) (ih h2 fun c hc => hd c (List.mem_cons_of_mem _ hc))
  have hal : PySem.W.AllAlike (bs.map encI) := fun d hd d' hd' => by
    obtain ⟨b, _, rfl⟩ := List.mem_map.mp hd
    obtain ⟨b', _, rfl⟩ := List.mem_map.mp hd'
    show PySem.W.alike (.tuple _) (.tuple _) = true
    rw [PySem.W.alike]
    exact alike_i _ _
  have hk : PySem.W.Sortable (bs.map encI) := .inl fun d hd => by
    obtain ⟨b, h1, rfl⟩ := List.mem_map.mp hd
    have := (hb b h1).1
    unfold encI
    cases hb2 : b.2 with
    | nil => exact absurd hb2 this
    | cons x r => exact ⟨_, _, rfl⟩
  rw [List.length_map] at hz
  refine PySem.W.sorted_data (enc := encI) hl.isList (eachI rv) (er rv fun b h => (hb b h).2) hal hk hz (fun b _ => ?_) fun out hlo he => ?_
  · have : (encI b).depth ≤ 1 := by
      unfold encI
      simp only [PyData.depth, depth_i]
      omega
    omega
  · obtain ⟨ep, he'⟩ := PyProof.Rows.sortedAll_at s.heap its out.toArray
    have hp : (bs.mergeSort (PySem.W.dataLe false encI)).Perm bs := List.mergeSort_perm _ _
    have hpw : (bs.mergeSort (PySem.W.dataLe false encI)).Pairwise fun x y => x.2 ≤ y.2 := by
      have := PySem.W.sort_pairwise (le := PySem.W.dataLe false encI) (PySem.W.sortLe_total (PyProof.Rows.listOrd PyProof.Rows.itemOrd) false fun b => PySem.W.keyToks (encI b)) bs
      exact this.imp fun {x y} h => by
        have h2 : PySem.W.dataLe false encI x y = true := h
        rw [le_i] at h2
        exact of_decide_eq_true h2
    have hlen : ((bs.mergeSort (PySem.W.dataLe false encI)).map (·.1)).length ≤ sizeLine := by
      rw [List.length_map, hp.length_eq]; exact hz
    exact ⟨.ref _, upd H (s.heap.objs.size + 1) (.lst ((bs.mergeSort (PySem.W.dataLe false encI)).map (·.1))), I.laid (t' := s.toks) (fun _ _ => PyProof.Rows.sortedAll_old) (Nat.le_succ _) ⟨hlen, out, ep, valsI he, he'⟩, rfl, q _ _ hp hpw (I.hok.fresh (Nat.le_succ _))⟩
end
end DL

namespace DL
open PySem PySem.Spec PyProof.Rows L2

/-! ### the core -/
/-- constants -/
inductive CC where | non | bl (b : Bool) | int (i : Int) | str (x : Str)
def CC.d : CC → D | .non => .non | .bl b => .bl b | .int i => .int i | .str x => .str x
/-- built-in functions -/
inductive BI where
  | len | abs | min2 | max2 | int1 | tuple1 | list1 | all1 | any1 | repr1 | sum1 | min1 | max1 | sorted1 | min3 | max3 | reprE | str1 | listD | intS | sortT | sortL
  deriving DecidableEq
/-- types that isinstance asks about -/
inductive TyB where | int | bool | str | tuple | list
  deriving DecidableEq
mutual
inductive CE where
  | var (i : Nat) | con (c : CC) | glo (j : Nat)
  | bin (op : Operator) (m : Bool) (a b : CE)
  | neg (a : CE)
  | cmp (op : CmpOp) (a b : CE)
  | chain (op op' : CmpOp) (a b c : CE)
  | and_ (a b : CE) | or_ (a b : CE) | not_ (a : CE)
  | ite (t : CB) (a b : CE)
  | tup (es : List CE) | lst (m : Bool) (es : List CE)
  | ix (a i : CE)
  | sl (m : Bool) (a : CE) (lo hi : CO)
  | call (j : Nat) (es : List CE)
  | callK (j : Nat) (es : List CE) (kes : List CE) (perm : List Nat)
  | bi (b : BI) (m : Bool) (es : List CE)
  | isi (t : TyB) (a : CE)
  | tindex (j : Nat) (e : CE)
  | dnew
  | dnewK
  | dnew1 (es : List CE) (v : CE)
  | ktup (es : List CE)
  | lrg (m : Bool) (a b : CE)
  | popE (a : CE)
  | kix (a i : CE)
  | kget (a i x : CE)
  | dcomp (key val : CE) (tg : CT) (it : CI) (own : List Nat)
  | dlit (ks : List Str) (es : List CE)
  | rev (a : CE)
  | lz (m : Bool) (a b : CE)
  | dget2 (a : CE) (es : List CE) (x : CE)
  | lc2 (m : Bool) (elt : CE) (tg : CT) (it : CI) (tg1 : CT) (it1 : CI) (own own1 : List Nat)
  | lc (m : Bool) (elt : CE) (tg : CT) (it : CI) (ifs : List CB) (own : List Nat)
inductive CB where
  | cand (a b : CB) | cor (a b : CB) | cnot (a : CB)
  | ccmp (op : CmpOp) (a b : CE) | cchain (op op' : CmpOp) (a b c : CE)
  | cval (e : CE) | cnil (a b : CE)
inductive CT where
  | name (i : Nat) | tup (ts : List CT) | sub (a i : CE) | dsub (a : CE) (es : List CE) | ksub (a i : CE) | kput (a i : CE)
inductive CI where
  | seq (e : CE) | range1 (a : CE) | range2 (a b : CE) | range3 (a b c : CE) | enum (a : CE) | zip2 (a b : CE) | zip3 (a b c : CE) | keys (e : CE) | items (e : CE) | kkeys (e : CE) | kitems (e : CE)
inductive CO where
  | no | yes (e : CE)
end
mutual
inductive CS where
  | expr (e : CE) | ret (e : CE) | retN | pass | brk | cont | never
  | asg (t : CT) (e : CE) | par2 (i j : Nat) (a b : CE) | par3 (i j k : Nat) (a b c : CE)
  | setLc (i : Nat) (e : CE)
  | aug (i : Nat) (op : Operator) (e : CE)
  | append (a e : CE)
  | extend (a e : CE)
  | popS (a : CE)
  | if_ (c : CB) (a b : List CS)
  | while_ (c : CB) (b : List CS)
  | for_ (t : CT) (it : CI) (b : List CS)
  | lock (s : CS)
  | lockK (s : CS)
end

/-! ### what the operations do, by data -/
def lstOf (S : DStore) : D → Option (List D)
  | .lst xs => some xs
  | .ref n => match S[n]? with
    | some (.lst xs) => some xs
    | _ => none
  | _ => none
/-- a list lies there -/
def LAt (S : DStore) (n : Nat) : Prop := ∃ xs, S[n]? = some (.lst xs)
theorem lat {S : DStore} {n : Nat} {xs : List D} (h : S[n]? = some (.lst xs)) : LAt S n := ⟨xs, h⟩
def dctOf (S : DStore) (n : Nat) : Option (List (List L2.Key × D)) := match S[n]? with
  | some (.dct kvs) => some kvs
  | some (.dlk kvs) => some kvs
  | _ => none
def DAt (S : DStore) (n : Nat) : Prop := ∃ kvs, dctOf S n = some kvs
theorem dat {S : DStore} {n : Nat} {kvs : List (List L2.Key × D)} (h : S[n]? = some (.dct kvs)) : DAt S n := ⟨kvs, by unfold dctOf; rw [h]⟩
def dkkOf (S : DStore) (n : Nat) : Option (List (L2.Key × D)) := match S[n]? with
  | some (.dkk kvs) => some kvs
  | some (.dkl kvs) => some kvs
  | _ => none
def KAt (S : DStore) (n : Nat) : Prop := ∃ kvs, dkkOf S n = some kvs
theorem dkk_at {S : DStore} {n : Nat} {kvs : List (L2.Key × D)} (h : S[n]? = some (.dkk kvs)) : dkkOf S n = some kvs := by unfold dkkOf; rw [h]
theorem dkl_at {S : DStore} {n : Nat} {kvs : List (L2.Key × D)} (h : S[n]? = some (.dkl kvs)) : dkkOf S n = some kvs := by unfold dkkOf; rw [h]
/-- what is written out -/
def mergeD (kvs more : List (L2.Key × D)) : List (L2.Key × D) := more.foldl (fun acc kv => putD acc kv.1 kv.2) kvs
def seqOf (S : DStore) : D → Option (List D)
  | .tup xs => some xs
  | .scr xs => some xs
  | d => lstOf S d
/-- a tuple or a list -/
def tlOf (S : DStore) : D → Option (List D)
  | .tup xs => some xs
  | d => lstOf S d
def newL (m : Bool) (ds : List D) (S : DStore) (Q : QE) : Prop :=
  match m with
  | true => Q (.ref S.length) (S ++ [.lst ds])
  | false => Q (.lst ds) S
def i2 (x y : D) (k : Int → Int → Prop) : Prop := match x, y with
  | .int i, .int j => k i j
  | _, _ => False
def MulOk (i j : Int) : Prop := CMul i j ∨ CMulW i j
def DivOk (j : Int) : Prop := j ≠ 0 ∧ j.natAbs.log2 < 9000
def addD (m : Bool) (x y : D) (S : DStore) (Q : QE) : Prop := match x, y with
  | .int i, .int j => Q (.int (i + j)) S
  | .str a, .str b => a.length + b.length ≤ sizeLine ∧ Q (.str (a ++ b)) S
  | .tup a, .tup b => a.length + b.length ≤ sizeLine ∧ Q (.tup (a ++ b)) S
  | x, y => ∃ a b, lstOf S x = some a ∧ lstOf S y = some b ∧ a.length + b.length ≤ sizeLine ∧ newL m (a ++ b) S Q
def mulD (m : Bool) (x y : D) (S : DStore) (Q : QE) : Prop := match x, y with
  | .int i, .int j => MulOk i j ∧ Q (.int (i * j)) S
  | .tup a, .int k => a ≠ [] ∧ 0 ≤ k ∧ k ≤ 1000 ∧ a.length ≤ 1000 ∧ Q (.tup (List.replicate k.toNat a).flatten) S
  | x, .int k => ∃ a, lstOf S x = some a ∧ -(2 ^ 63) ≤ k ∧ k < 2 ^ 63 ∧ a.length * k.toNat ≤ sizeLine ∧ newL m (List.replicate k.toNat a).flatten S Q
  | _, _ => False
def binD (op : Operator) (m : Bool) (x y : D) (S : DStore) (Q : QE) : Prop := match op with
  | .Add => addD m x y S Q
  | .Sub => i2 x y fun i j => Q (.int (i - j)) S
  | .Mult => mulD m x y S Q
  | .FloorDiv => i2 x y fun i j => DivOk j ∧ Q (.int (i.fdiv j)) S
  | .Mod => i2 x y fun i j => j ≠ 0 ∧ Q (.int (i.fmod j)) S
  | .Pow => i2 x y fun i j => CPow i j ∧ Q (.int (i ^ j.toNat)) S
  | .LShift => i2 x y fun i j => CShl i j ∧ Q (.int (i * 2 ^ j.toNat)) S
  | .RShift => i2 x y fun i j => 0 ≤ j ∧ Q (.int (i / 2 ^ j.toNat)) S
  | _ => False
mutual
def pur : D → Option PyData
  | .non => some .none
  | .bl b => some (.bool b)
  | .int i => some (.int i)
  | .str x => some (.str x)
  | .tup xs => (purs xs).map .tuple
  | .lst xs => (purs xs).map .list
  | .ref _ => none
  | .scr _ => none
  | .key _ => none
def purs : List D → Option (List PyData)
  | [] => some []
  | x :: xs => (pur x).bind fun p => (purs xs).map (p :: ·)
end
def purS (S : DStore) : D → Option PyData
  | .ref n => ((lstOf S (.ref n)).bind purs).map .list
  | d => pur d
mutual
/-- data, empty dicts among them -/
def purE (S : DStore) : D → Option PyData
  | .non => some .none
  | .bl b => some (.bool b)
  | .int i => some (.int i)
  | .str x => some (.str x)
  | .tup xs => (pursE S xs).map .tuple
  | .lst xs => (pursE S xs).map .list
  | .ref n => match S[n]? with
    | some (.dct []) => some (.dict [])
    | some (.lst xs) => (purs xs).map .list
    | _ => none
  | .scr _ => none
  | .key _ => none
def pursE (S : DStore) : List D → Option (List PyData)
  | [] => some []
  | x :: xs => (purE S x).bind fun p => (pursE S xs).map (p :: ·)
end
def eqD (S : DStore) (x y : D) (Q : Bool → Prop) : Prop := match x, y with
  | .int i, .int j => Q (decide (i = j))
  | .bl i, .bl j => Q (decide (i = j))
  | .str i, .str j => Q (decide (i = j))
  | x, y => ∃ p q, purS S x = some p ∧ purS S y = some q ∧ SeqAt.shaped p = true ∧ SeqAt.shaped q = true ∧ Q (PyData.eqv p q)
/-- flat things: what `in` may compare -/
def flatD : D → Bool
  | .non | .bl _ | .int _ | .str _ => true
  | _ => false
def toV : D → V
  | .non => .non | .bl b => .bl b | .int i => .int i | .str x => .str x | _ => .non
def inD (S : DStore) (x y : D) (Q : Bool → Prop) : Prop := match x with
  | .key ks => ∃ n kvs, y = .ref n ∧ dctOf S n = some kvs ∧ Q (valD kvs ks).isSome
  | .tup us => (∃ n kvs ks, y = .ref n ∧ dctOf S n = some kvs ∧ keysOf us = some ks ∧ Q (valD kvs ks).isSome) ∨ (∃ p ys ps, pur (.tup us) = some p ∧ y = .tup ys ∧ purs ys = some ps ∧ SeqAt.shaped p = true ∧ SeqAt.shaped (.tuple ps) = true ∧ p.depth ≤ 10 ∧ Q (ps.any fun z => PyData.eqv z p)) ∨
      ∃ p ps, pur (.tup us) = some p ∧ purS S y = some (.list ps) ∧ SeqAt.shaped p = true ∧ SeqAt.shaped (.list ps) = true ∧ p.depth ≤ 10 ∧ Q (ps.any fun z => PyData.eqv z p)
  | x => ∃ xs, seqOf S y = some xs ∧ flatD x = true ∧ xs.all flatD = true ∧ Q (inV (toV x) (xs.map toV))
def isNon : D → Bool
  | .non => true
  | _ => false
def isD (x y : D) (Q : Bool → Prop) : Prop := match y with
  | .non => Q (isNon x)
  | .bl b => ∃ c, x = .bl c ∧ Q (decide (c = b))
  | _ => False
/-- order: of whole numbers, and of tuples and lists that are alike -/
def ordD (g : Int → Int → Bool) (f : PyData → PyData → Bool) (S : DStore) (x y : D) (Q : Bool → Prop) : Prop := match x, y with
  | .int i, .int j => Q (g i j)
  | x, y => ∃ p q, purS S x = some p ∧ purS S y = some q ∧ PySem.W.alike p q = true ∧ p ≠ .none ∧ p.depth ≤ 10 ∧ Q (f p q)
def cmpD (op : CmpOp) (S : DStore) (x y : D) (Q : Bool → Prop) : Prop := match op with
  | .Lt => ordD (fun i j => decide (i < j)) (fun p q => PySem.W.dataLt p q) S x y Q
  | .LtE => ordD (fun i j => decide (i ≤ j)) (fun p q => !PySem.W.dataLt q p) S x y Q
  | .Gt => ordD (fun i j => decide (j < i)) (fun p q => PySem.W.dataLt q p) S x y Q
  | .GtE => ordD (fun i j => decide (j ≤ i)) (fun p q => !PySem.W.dataLt p q) S x y Q
  | .Eq => eqD S x y Q
  | .NotEq => eqD S x y fun b => Q (!b)
  | .In => inD S x y Q
  | .NotIn => inD S x y fun b => Q (!b)
  | .Is => isD x y Q
  | .IsNot => isD x y fun b => Q (!b)
def truD (S : DStore) (x : D) (Q : Bool → Prop) : Prop := match x with
  | .non => Q false
  | .bl b => Q b
  | .int i => Q (i != 0)
  | .str y => y.length ≤ sizeLine ∧ Q ((y.length : Int) != 0)
  | d => ∃ xs, seqOf S d = some xs ∧ Q (!xs.isEmpty)
def ixD (S : DStore) (x y : D) (Q : D → Prop) : Prop := match y with
  | .int i => match x with
    | .str z => ∃ c, z.length ≤ sizeLine ∧ atI z.cps.toList i = some c ∧ Q (.str ⟨#[c]⟩)
    | d => ∃ xs v, seqOf S d = some xs ∧ atI xs i = some v ∧ Q v
  | .tup ys => ∃ n kvs ks v, x = .ref n ∧ dctOf S n = some kvs ∧ keysOf ys = some ks ∧ valD kvs ks = some v ∧ Q v
  | .key ks => ∃ n kvs v, x = .ref n ∧ dctOf S n = some kvs ∧ valD kvs ks = some v ∧ Q v
  | _ => False
def cutD (xs : List D) (lo hi : Option Int) : List D := (xs.drop (HT.sIx xs.length 0 lo)).take (HT.sIx xs.length xs.length hi - HT.sIx xs.length 0 lo)
def slD (m : Bool) (S : DStore) (x : D) (lo hi : Option Int) (Q : QE) : Prop := match x with
  | .tup xs => Q (.tup (cutD xs lo hi)) S
  | d => ∃ xs, lstOf S d = some xs ∧ newL m (cutD xs lo hi) S Q
structure RepOk (p : PyData) : Prop where
  sh : p.showable = true
  dp : p.depth ≤ 50
  nd : p.hasDict = false
  sz : p.shown.length ≤ sizeLine
def blOf : D → Option Bool
  | .bl b => some b
  | _ => none
def inOf : D → Option Int
  | .int b => some b
  | _ => none
/-- sorted: ints, or the keys of a dict of pairs of ints -/
def srtD (m : Bool) (d : D) (S : DStore) (Q : QE) : Prop :=
  (∃ xs ns, lstOf S d = some xs ∧ xs.mapM inOf = some ns ∧ ∀ ns' : List Int, ns'.Perm ns → ns'.Pairwise (· ≤ ·) → newL m (ns'.map D.int) S Q) ∨
  (∃ n kvs, d = .ref n ∧ dctOf S n = some kvs ∧ (∀ p ∈ kvs, ∃ i j : Int, p.1 = [Sum.inl i, Sum.inl j]) ∧ ∀ ds' : List D, ds'.Perm (kvs.map fun p => D.tup (p.1.map keyD)) → newL m ds' S Q) ∨
  (∃ n kvs, d = .ref n ∧ dctOf S n = some kvs ∧ (∀ p ∈ kvs, SI p.1) ∧ ∀ ds' : List D, ds'.Perm (kvs.map fun p => D.tup (p.1.map keyD)) → newL m ds' S Q)
def tI (r : List Int) : D := .tup (r.map D.int)
def biD (b : BI) (m : Bool) (xs : List D) (S : DStore) (Q : QE) : Prop := match b, xs with
  | .len, [.str y] => y.length ≤ sizeLine ∧ Q (.int y.length) S
  | .len, [d] => ∃ xs, seqOf S d = some xs ∧ Q (.int xs.length) S
  | .abs, [.int i] => Q (.int (if i < 0 then -i else i)) S
  | .min2, [.int i, .int j] => Q (.int (if j < i then j else i)) S
  | .max2, [.int i, .int j] => Q (.int (if j > i then j else i)) S
  | .int1, [.int i] => Q (.int i) S
  | .int1, [.bl k] => Q (.int (if k then 1 else 0)) S
  | .tuple1, [.tup xs] => Q (.tup xs) S
  | .tuple1, [d] => ∃ xs, lstOf S d = some xs ∧ Q (.tup xs) S
  | .list1, [d] => ∃ xs, seqOf S d = some xs ∧ newL m xs S Q
  | .listD, [d] => ∃ n kvs, d = .ref n ∧ dctOf S n = some kvs ∧ newL m (kvs.map fun p => D.tup (p.1.map keyD)) S Q
  | .all1, [d] => ∃ xs bs, lstOf S d = some xs ∧ xs.mapM blOf = some bs ∧ Q (.bl (bs.all id)) S
  | .any1, [d] => ∃ xs bs, lstOf S d = some xs ∧ xs.mapM blOf = some bs ∧ Q (.bl (bs.any id)) S
  | .sum1, [d] => ∃ xs bs, lstOf S d = some xs ∧ xs.mapM inOf = some bs ∧ Q (.int bs.sum) S
  | .min1, [d] => ∃ xs bs m, tlOf S d = some xs ∧ xs.mapM inOf = some bs ∧ m ∈ bs ∧ (∀ y ∈ bs, m ≤ y) ∧ Q (.int m) S
  | .max1, [d] => ∃ xs bs m, tlOf S d = some xs ∧ xs.mapM inOf = some bs ∧ m ∈ bs ∧ (∀ y ∈ bs, y ≤ m) ∧ Q (.int m) S
  | .min3, [.int i, .int j, .int k] => Q (.int (if k < (if j < i then j else i) then k else if j < i then j else i)) S
  | .max3, [.int i, .int j, .int k] => Q (.int (if k > (if j > i then j else i) then k else if j > i then j else i)) S
  | .repr1, [d] => ∃ p, purS S d = some p ∧ RepOk p ∧ Q (.str p.shown) S
  | .sorted1, [d] => srtD m d S Q
  | .sortT, [.tup xs] => ∃ ns, xs.mapM inOf = some ns ∧ ∀ ns' : List Int, ns'.Perm ns → ns'.Pairwise (· ≤ ·) → newL m (ns'.map D.int) S Q
  | .sortL, [d] => ∃ rows : List (List Int), lstOf S d = some (rows.map tI) ∧ (∀ r ∈ rows, r ≠ []) ∧ ∀ rows' : List (List Int), rows'.Perm rows → rows'.Pairwise (· ≤ ·) → newL m (rows'.map tI) S Q
  | .intS, [.str z] => ∃ n, PySem.intText? z = some n ∧ z.length ≤ 640 ∧ Q (.int n) S
  | .str1, [d] => ∃ i, d = .int i ∧ i.natAbs.log2 < 1920 ∧ Q (.str (toString i)) S
  | .reprE, [d] => ∃ p, purE S d = some p ∧ RepOkE p ∧ Q (.str p.shown) S
  | _, _ => False

def isiD : TyB → D → Bool
  | .int, .int _ => true
  | .int, .bl _ => true
  | .bool, .bl _ => true
  | .str, .str _ => true
  | .tuple, .tup _ => true
  | .tuple, .key _ => true
  | .list, .lst _ => true
  | .list, .ref _ => true
  | _, _ => false
def isiC : TyB → Cell → Bool
  | .list, .lst _ => true
  | _, _ => false
def isiP (t : TyB) (x : D) (S : DStore) (Q : QE) : Prop := match x with
  | .scr _ => False
  | .ref n => ∃ c, S[n]? = some c ∧ match c with
    | .dlk _ => False
    | .dkl _ => False
    | c => Q (.bl (isiC t c)) S
  | x => Q (.bl (isiD t x)) S
/-- what is taken apart -/
def unpD (S : DStore) (d : D) (k : List D → Prop) : Prop := match d with
  | .tup xs => k xs
  | d => ∃ xs, lstOf S d = some xs ∧ k xs
structure Fns where
  fn : Nat → List D → DStore → QE → Prop
  gl : Nat → D

structure DEnds where
  nx : DEnv → DStore → Prop
  rt : QE
  bk : DEnv → DStore → Prop := fun _ _ => False
  ct : DEnv → DStore → Prop := fun _ _ => False

/-- what is walked: its items, and what must stay -/
abbrev RI := List D → (DStore → Prop) → DStore → Prop
def itD (S : DStore) (x : D) (R : RI) : Prop := match x with
  | .tup xs => R xs (fun _ => True) S
  | .lst xs => R xs (fun _ => True) S
  | .scr xs => R xs (fun _ => True) S
  | .ref n => ∃ xs, S[n]? = some (.lst xs) ∧ R xs (fun S' => S'[n]? = some (.lst xs)) S
  | _ => False
def zipD (xs ys : List D) : List D := (xs.zip ys).map fun p => .tup [p.1, p.2]
def zipP (S : DStore) (x y : D) (R : RI) : Prop := match x, y with
  | .tup xs, .tup ys => R (zipD xs ys) (fun _ => True) S
  | x, y => ∃ xs ys, tlOf S x = some xs ∧ tlOf S y = some ys ∧ R (zipD xs ys) (fun S' => tlOf S' x = some xs ∧ tlOf S' y = some ys) S
def zip3D (xs ys zs : List D) : List D := ((xs.zip ys).zip zs).map fun p => .tup [p.1.1, p.1.2, p.2]
def zip3P (S : DStore) (x y z : D) (R : RI) : Prop := ∃ xs ys zs, tlOf S x = some xs ∧ tlOf S y = some ys ∧ tlOf S z = some zs ∧ R (zip3D xs ys zs) (fun S' => tlOf S' x = some xs ∧ tlOf S' y = some ys ∧ tlOf S' z = some zs) S
def enumD (xs : List D) : List D := xs.zipIdx.map fun p => .tup [.int p.2, p.1]
def enumP (S : DStore) (x : D) (R : RI) : Prop := match x with
  | .tup xs => R (enumD xs) (fun _ => True) S
  | x => ∃ xs, lstOf S x = some xs ∧ R (enumD xs) (fun S' => lstOf S' x = some xs) S
def range3D (lo c : Int) (n : Nat) : List D := (List.range n).map fun (k : Nat) => .int (lo + (k : Int) * c)
def rangeD (lo hi : Int) : List D := (List.range (hi - lo).toNat).map fun (k : Nat) => .int (lo + k)
def Sm (i : Int) : Prop := -(2 ^ 62) ≤ i ∧ i < 2 ^ 62
def wipeD (ρ : DEnv) : List Nat → DEnv
  | [] => ρ
  | v :: vs => (wipeD ρ vs).set v none
/-- the rule of a walk that gathers -/
def wpGather (items : List D) (G : DStore → Prop) (S : DStore) (turn : D → DStore → (Option D → DStore → Prop) → Prop) (Q : List D → DStore → Prop) : Prop :=
  ∃ W : Nat → List D → DStore → Prop, W 0 [] S ∧ (∀ i acc S, W i acc S → G S ∧ acc.length ≤ i ∧ i ≤ items.length) ∧ items.length ≤ sizeLine ∧
    (∀ i x acc S, W i acc S → items[i]? = some x → turn x S fun o S' => match o with | some y => W (i + 1) (acc ++ [y]) S' | none => W (i + 1) acc S') ∧
    ∀ acc S, W items.length acc S → Q acc S
def wpWalk (items : List D) (G : DStore → Prop) (ρ : DEnv) (S : DStore) (turn : D → DEnv → DStore → (DEnv → DStore → Prop) → Prop) (Q : DEnv → DStore → Prop) : Prop :=
  ∃ W : Nat → DEnv → DStore → Prop, W 0 ρ S ∧ (∀ i ρ S, W i ρ S → G S) ∧
    (∀ i x ρ S, W i ρ S → items[i]? = some x → turn x ρ S (W (i + 1))) ∧ ∀ ρ S, W items.length ρ S → Q ρ S
def wpLoop (ρ : DEnv) (S : DStore) (test : DEnv → DStore → (Bool → DStore → Prop) → Prop) (turn : DEnv → DStore → (DEnv → DStore → Prop) → Prop) (Q : DEnv → DStore → Prop) : Prop :=
  ∃ W : Nat → DEnv → DStore → Prop, (∃ m, W m ρ S) ∧ ∀ m ρ S, W m ρ S → test ρ S fun b S1 => if b = true then turn ρ S1 (fun ρ' S' => ∃ m', m' < m ∧ W m' ρ' S') else Q ρ S1

section
variable (G : Fns)
mutual
def wpE : CE → DEnv → DStore → QE → Prop
  | .var i, ρ, S, Q => ∃ d, ρ[i]? = some (some d) ∧ Q d S
  | .con c, _, S, Q => Q c.d S
  | .glo j, _, S, Q => Q (G.gl j) S
  | .bin op m a b, ρ, S, Q => wpE a ρ S fun x S1 => wpE b ρ S1 fun y S2 => binD op m x y S2 Q
  | .neg a, ρ, S, Q => wpE a ρ S fun x S1 => ∃ i, x = .int i ∧ Q (.int (-i)) S1
  | .cmp op a b, ρ, S, Q => wpE a ρ S fun x S1 => wpE b ρ S1 fun y S2 => cmpD op S2 x y fun r => Q (.bl r) S2
  | .chain op op' a b c, ρ, S, Q => wpE a ρ S fun x S1 => wpE b ρ S1 fun y S2 => cmpD op S2 x y fun r => if r = true then wpE c ρ S2 fun z S3 => cmpD op' S3 y z fun r' => Q (.bl r') S3 else Q (.bl false) S2
  | .and_ a b, ρ, S, Q => wpE a ρ S fun x S1 => ∃ c, x = .bl c ∧ if c = true then wpE b ρ S1 Q else Q (.bl false) S1
  | .or_ a b, ρ, S, Q => wpE a ρ S fun x S1 => ∃ c, x = .bl c ∧ if c = true then Q (.bl true) S1 else wpE b ρ S1 Q
  | .not_ a, ρ, S, Q => wpE a ρ S fun x S1 => ∃ c, x = .bl c ∧ Q (.bl (!c)) S1
  | .ite t a b, ρ, S, Q => wpB t ρ S fun r S1 => if r = true then wpE a ρ S1 Q else wpE b ρ S1 Q
  | .tup es, ρ, S, Q => wpEs es ρ S fun ds S1 => Q (.tup ds) S1
  | .lst m es, ρ, S, Q => wpEs es ρ S fun ds S1 => newL m ds S1 Q
  | .ix a i, ρ, S, Q => wpE a ρ S fun x S1 => wpE i ρ S1 fun y S2 => ixD S2 x y fun d => Q d S2
  | .sl m a lo hi, ρ, S, Q => wpE a ρ S fun x S1 => wpO lo ρ S1 fun l S2 => wpO hi ρ S2 fun h S3 => slD m S3 x l h Q
  | .call j es, ρ, S, Q => wpEs es ρ S fun ds S1 => G.fn j ds S1 Q
  | .callK j es kes perm, ρ, S, Q => wpEs es ρ S fun ds S1 => wpEs kes ρ S1 fun ks S2 => G.fn j (ds ++ perm.map fun i => ks.getD i .non) S2 Q
  | .bi b m es, ρ, S, Q => wpEs es ρ S fun ds S1 => biD b m ds S1 Q
  | .tindex i e, ρ, S, Q => ∃ ys : List Str, G.gl i = .tup (ys.map D.str) ∧ wpE e ρ S fun y S2 => ∃ z j, y = .str z ∧ ys[j]? = some z ∧ (∀ m, m < j → ys[m]? ≠ some z) ∧ Q (.int (j : Nat)) S2
  | .dnew, _, S, Q => Q (.ref S.length) (S ++ [.dct []])
  | .dnewK, _, S, Q => Q (.ref S.length) (S ++ [.dkk []])
  | .dnew1 es v, ρ, S, Q => wpEs es ρ (S ++ [.dct []]) fun ys S1 => wpE v ρ S1 fun z S2 => ∃ ks, keysOf ys = some ks ∧ S2[S.length]? = some (.dct []) ∧ Q (.ref S.length) (S2.set S.length (.dct [(ks, z)]))
  | .ktup es, ρ, S, Q => wpEs es ρ S fun ds S1 => ∃ ks, keysOf ds = some ks ∧ Q (.key ks) S1
  | .lrg m a b, ρ, S, Q => wpE a ρ S fun x S1 => wpE b ρ S1 fun y S2 => ∃ i j, x = .int i ∧ y = .int j ∧ Sm i ∧ Sm j ∧ (j - i).toNat ≤ 1000000 ∧ newL m (rangeD i j) S2 Q
  | .popE a, ρ, S, Q => wpE a ρ S fun x S1 => ∃ n xs y, x = .ref n ∧ S1[n]? = some (.lst (xs ++ [y])) ∧ Q y (S1.set n (.lst xs))
  | .kix a i, ρ, S, Q => wpE a ρ S fun x S1 => wpE i ρ S1 fun y S2 => ∃ n kvs k v, x = .ref n ∧ dkkOf S2 n = some kvs ∧ keyOf y = some k ∧ valD kvs k = some v ∧ Q v S2
  | .kget a i z, ρ, S, Q => wpE a ρ S fun x S1 => ∃ n, x = .ref n ∧ KAt S1 n ∧ wpE i ρ S1 fun y S2 => wpE z ρ S2 fun w S3 => ∃ kvs k, dkkOf S3 n = some kvs ∧ keyOf y = some k ∧ Q ((valD kvs k).getD w) S3
  | .dcomp key val tg it own, ρ, S, Q => wpI it ρ S fun items G S1 => ∃ W : Nat → List (L2.Key × D) → DStore → Prop, W 0 [] S1 ∧ (∀ i acc S, W i acc S → G S ∧ i ≤ items.length) ∧
      (∀ i x acc S, W i acc S → items[i]? = some x → wpG tg x (wipeD ρ own) S fun ρ2 S2 => wpE key ρ2 S2 fun y S3 => wpE val ρ2 S3 fun z S4 => ∃ k, keyOf y = some k ∧ acc.length < sizeLine ∧ W (i + 1) (putD acc k z) S4) ∧
      ∀ acc S, W items.length acc S → Q (.ref S.length) (S ++ [.dkk acc])
  | .dlit ks es, ρ, S, Q => wpEs es ρ (S ++ [.dkk []]) fun ds S1 => S1[S.length]? = some (.dkk []) ∧ Q (.ref S.length) (S1.set S.length (.dkk (mergeD [] ((ks.map Sum.inr).zip ds))))
  | .rev a, ρ, S, Q => wpE a ρ S fun x S1 => ∃ xs, x = .tup xs ∧ Q (.tup xs.reverse) S1
  | .lz m a b, ρ, S, Q => wpE a ρ S fun x S1 => wpE b ρ S1 fun y S2 => ∃ xs ys, lstOf S2 x = some xs ∧ lstOf S2 y = some ys ∧ (xs.zip ys).length ≤ sizeLine ∧ newL m (zipD xs ys) S2 Q
  | .dget2 a es x, ρ, S, Q => wpE a ρ S fun d S1 => ∃ n, d = .ref n ∧ DAt S1 n ∧ wpEs es ρ S1 fun ys S2 => wpE x ρ S2 fun z S3 => ∃ kvs ks, dctOf S3 n = some kvs ∧ keysOf ys = some ks ∧ Q ((valD kvs ks).getD z) S3
  | .isi t a, ρ, S, Q => wpE a ρ S fun x S1 => isiP t x S1 Q
  | .lc2 m elt tg it tg1 it1 own own1, ρ, S, Q => wpI it ρ S fun items G S1 => ∃ W : Nat → List D → DStore → Prop, W 0 [] S1 ∧ (∀ i acc S, W i acc S → G S ∧ i ≤ items.length) ∧
      (∀ i x acc S, W i acc S → items[i]? = some x → wpG tg x (wipeD ρ own) S fun ρ2 S2 => wpI it1 ρ2 S2 fun items1 G1 S3 => ∃ W1 : Nat → List D → DStore → Prop, W1 0 acc S3 ∧ (∀ j acc S, W1 j acc S → G1 S ∧ acc.length < sizeLine ∧ j ≤ items1.length) ∧
        (∀ j y acc S, W1 j acc S → items1[j]? = some y → wpG tg1 y (wipeD ρ2 own1) S fun ρ3 S4 => wpE elt ρ3 S4 fun z S5 => W1 (j + 1) (acc ++ [z]) S5) ∧ ∀ acc S, W1 items1.length acc S → W (i + 1) acc S) ∧
      ∀ acc S, W items.length acc S → newL m acc S Q
  | .lc m elt tg it ifs own, ρ, S, Q => wpI it ρ S fun items G S1 => wpGather items G S1
      (fun x S' N => wpG tg x (wipeD ρ own) S' fun ρ2 S2 => wpBs ifs ρ2 S2 fun r S3 => if r = true then wpE elt ρ2 S3 fun y S4 => N (some y) S4 else N none S3)
      fun acc S' => newL m acc S' Q
def wpEs : List CE → DEnv → DStore → (List D → DStore → Prop) → Prop
  | [], _, S, Q => Q [] S
  | e :: es, ρ, S, Q => wpE e ρ S fun d S1 => wpEs es ρ S1 fun ds S2 => Q (d :: ds) S2
def wpO : CO → DEnv → DStore → (Option Int → DStore → Prop) → Prop
  | .no, _, S, Q => Q none S
  | .yes e, ρ, S, Q => wpE e ρ S fun x S1 => ∃ i, x = .int i ∧ Q (some i) S1
def wpB : CB → DEnv → DStore → (Bool → DStore → Prop) → Prop
  | .cand a b, ρ, S, Q => wpB a ρ S fun r S1 => if r = true then wpB b ρ S1 Q else Q false S1
  | .cor a b, ρ, S, Q => wpB a ρ S fun r S1 => if r = true then Q true S1 else wpB b ρ S1 Q
  | .cnot a, ρ, S, Q => wpB a ρ S fun r S1 => Q (!r) S1
  | .ccmp op a b, ρ, S, Q => wpE a ρ S fun x S1 => wpE b ρ S1 fun y S2 => cmpD op S2 x y fun r => Q r S2
  | .cchain op op' a b c, ρ, S, Q => wpE a ρ S fun x S1 => wpE b ρ S1 fun y S2 => cmpD op S2 x y fun r => if r = true then wpE c ρ S2 fun z S3 => cmpD op' S3 y z fun r' => Q r' S3 else Q false S2
  | .cval e, ρ, S, Q => wpE e ρ S fun x S1 => truD S1 x fun r => Q r S1
  | .cnil a b, ρ, S, Q => wpE a ρ S fun x S1 => wpE b ρ S1 fun y S2 => y = .lst [] ∧ ∃ xs, lstOf S2 x = some xs ∧ Q (!xs.isEmpty) S2
def wpBs : List CB → DEnv → DStore → (Bool → DStore → Prop) → Prop
  | [], _, S, Q => Q true S
  | b :: bs, ρ, S, Q => wpB b ρ S fun r S1 => if r = true then wpBs bs ρ S1 Q else Q false S1
def wpG : CT → D → DEnv → DStore → (DEnv → DStore → Prop) → Prop
  | .name i, d, ρ, S, Q => Q (ρ.set i (some d)) S
  | .tup ts, d, ρ, S, Q => unpD S d fun xs => xs.length = ts.length ∧ wpGs ts xs ρ S Q
  | .sub a i, d, ρ, S, Q => wpE a ρ S fun x S1 => wpE i ρ S1 fun y S2 => ∃ n xs k j, x = .ref n ∧ y = .int k ∧ S2[n]? = some (.lst xs) ∧ ixN xs.length k = some j ∧ Q ρ (S2.set n (.lst (xs.set j d)))
  | .dsub a es, d, ρ, S, Q => wpE a ρ S fun x S1 => wpEs es ρ S1 fun ys S2 => ∃ n kvs ks, x = .ref n ∧ S2[n]? = some (.dct kvs) ∧ keysOf ys = some ks ∧ kvs.length < sizeLine ∧ Q ρ (S2.set n (.dct (putD kvs ks d)))
  | .ksub a i, d, ρ, S, Q => wpE a ρ S fun x S1 => wpE i ρ S1 fun y S2 => ∃ n kvs ks, x = .ref n ∧ y = .key ks ∧ S2[n]? = some (.dct kvs) ∧ kvs.length < sizeLine ∧ Q ρ (S2.set n (.dct (putD kvs ks d)))
  | .kput a i, d, ρ, S, Q => wpE a ρ S fun x S1 => wpE i ρ S1 fun y S2 => ∃ n kvs k, x = .ref n ∧ S2[n]? = some (.dkk kvs) ∧ keyOf y = some k ∧ kvs.length < sizeLine ∧ Q ρ (S2.set n (.dkk (putD kvs k d)))
def wpGs : List CT → List D → DEnv → DStore → (DEnv → DStore → Prop) → Prop
  | [], _, ρ, S, Q => Q ρ S
  | t :: ts, ds, ρ, S, Q => ∃ d r, ds = d :: r ∧ wpG t d ρ S fun ρ1 S1 => wpGs ts r ρ1 S1 Q
def wpI : CI → DEnv → DStore → RI → Prop
  | .seq e, ρ, S, R => wpE e ρ S fun x S1 => itD S1 x R
  | .range1 a, ρ, S, R => wpE a ρ S fun x S1 => ∃ j, x = .int j ∧ Sm j ∧ R (rangeD 0 j) (fun _ => True) S1
  | .range2 a b, ρ, S, R => wpE a ρ S fun x S1 => wpE b ρ S1 fun y S2 => ∃ i j, x = .int i ∧ y = .int j ∧ Sm i ∧ Sm j ∧ R (rangeD i j) (fun _ => True) S2
  | .range3 a b c, ρ, S, R => wpE a ρ S fun x S1 => wpE b ρ S1 fun y S2 => wpE c ρ S2 fun z S3 => ∃ i j k n, x = .int i ∧ y = .int j ∧ z = .int k ∧ RgC i j k n ∧ R (range3D i k n) (fun _ => True) S3
  | .enum a, ρ, S, R => wpE a ρ S fun x S1 => enumP S1 x R
  | .zip2 a b, ρ, S, R => wpE a ρ S fun x S1 => wpE b ρ S1 fun y S2 => zipP S2 x y R
  | .zip3 a b c, ρ, S, R => wpE a ρ S fun x S1 => wpE b ρ S1 fun y S2 => wpE c ρ S2 fun z S3 => zip3P S3 x y z R
  | .keys e, ρ, S, R => wpE e ρ S fun x S1 => ∃ n kvs, x = .ref n ∧ S1[n]? = some (.dlk kvs) ∧ R (kvs.map fun p => D.tup (p.1.map keyD)) (fun _ => True) S1
  | .items e, ρ, S, R => wpE e ρ S fun x S1 => ∃ n kvs, x = .ref n ∧ S1[n]? = some (.dlk kvs) ∧ R (kvs.map fun p => D.tup [D.tup (p.1.map keyD), p.2]) (fun _ => True) S1
  | .kkeys e, ρ, S, R => wpE e ρ S fun x S1 => ∃ n kvs, x = .ref n ∧ S1[n]? = some (.dkl kvs) ∧ R (kvs.map fun p => keyD p.1) (fun _ => True) S1
  | .kitems e, ρ, S, R => wpE e ρ S fun x S1 => ∃ n kvs, x = .ref n ∧ S1[n]? = some (.dkl kvs) ∧ R (kvs.map fun p => D.tup [keyD p.1, p.2]) (fun _ => True) S1
end
mutual
def wpS : CS → DEnv → DStore → DEnds → Prop
  | .expr e, ρ, S, K => wpE G e ρ S fun _ S1 => K.nx ρ S1
  | .ret e, ρ, S, K => wpE G e ρ S K.rt
  | .retN, ρ, S, K => K.rt .non S
  | .pass, ρ, S, K => K.nx ρ S
  | .brk, ρ, S, K => K.bk ρ S
  | .cont, ρ, S, K => K.ct ρ S
  | .never, _, _, _ => False
  | .asg t e, ρ, S, K => wpE G e ρ S fun d S1 => wpG G t d ρ S1 K.nx
  | .par2 i j a b, ρ, S, K => wpE G a ρ S fun x S1 => wpE G b ρ S1 fun y S2 => K.nx ((ρ.set i (some x)).set j (some y)) S2
  | .par3 i j k a b c, ρ, S, K => wpE G a ρ S fun x S1 => wpE G b ρ S1 fun y S2 => wpE G c ρ S2 fun z S3 => K.nx (((ρ.set i (some x)).set j (some y)).set k (some z)) S3
  | .setLc i e, ρ, S, K => wpE G e ρ S fun d S1 => K.nx (ρ.set i (some d)) S1
  | .aug i op e, ρ, S, K => ∃ x, ρ[i]? = some (some x) ∧ wpE G e ρ S fun y S1 => i2 x y fun a b => match op with
      | .Add => K.nx (ρ.set i (some (.int (a + b)))) S1
      | .Sub => K.nx (ρ.set i (some (.int (a - b)))) S1
      | _ => False
  | .append a e, ρ, S, K => wpE G a ρ S fun x S1 => ∃ n, x = .ref n ∧ LAt S1 n ∧ wpE G e ρ S1 fun y S2 => ∃ xs, S2[n]? = some (.lst xs) ∧ xs.length < sizeLine ∧ K.nx ρ (S2.set n (.lst (xs ++ [y])))
  | .extend a e, ρ, S, K => wpE G a ρ S fun x S1 => ∃ n, x = .ref n ∧ LAt S1 n ∧ wpE G e ρ S1 fun y S2 => ∃ xs zs, S2[n]? = some (.lst xs) ∧ lstOf S2 y = some zs ∧ xs.length + zs.length ≤ sizeLine ∧ K.nx ρ (S2.set n (.lst (xs ++ zs)))
  | .popS a, ρ, S, K => wpE G a ρ S fun x S1 => ∃ n xs y, x = .ref n ∧ S1[n]? = some (.lst (xs ++ [y])) ∧ K.nx ρ (S1.set n (.lst xs))
  | .if_ c a b, ρ, S, K => wpB G c ρ S fun r S1 => if r = true then wpSs a ρ S1 K else wpSs b ρ S1 K
  | .while_ c b, ρ, S, K => wpLoop ρ S (fun ρ S Q => wpB G c ρ S Q) (fun ρ S N => wpSs b ρ S { K with nx := N, ct := N, bk := K.nx }) K.nx
  | .for_ t it b, ρ, S, K => wpI G it ρ S fun items I S1 => wpWalk items I ρ S1 (fun x ρ' S' N => wpG G t x ρ' S' fun ρ2 S2 => wpSs b ρ2 S2 { K with nx := N, ct := N, bk := K.nx }) K.nx
  | .lock s, ρ, S, K => ∃ n kvs, S[n]? = some (.dct kvs) ∧ wpS s ρ (S.set n (.dlk kvs)) ⟨fun ρ' S' => K.nx ρ' (S'.set n (.dct kvs)), fun d S' => K.rt d (S'.set n (.dct kvs)), fun ρ' S' => K.bk ρ' (S'.set n (.dct kvs)), fun ρ' S' => K.ct ρ' (S'.set n (.dct kvs))⟩
  | .lockK s, ρ, S, K => ∃ n kvs, S[n]? = some (.dkk kvs) ∧ wpS s ρ (S.set n (.dkl kvs)) ⟨fun ρ' S' => K.nx ρ' (S'.set n (.dkk kvs)), fun d S' => K.rt d (S'.set n (.dkk kvs)), fun ρ' S' => K.bk ρ' (S'.set n (.dkk kvs)), fun ρ' S' => K.ct ρ' (S'.set n (.dkk kvs))⟩
def wpSs : List CS → DEnv → DStore → DEnds → Prop
  | [], ρ, S, K => K.nx ρ S
  | s :: ss, ρ, S, K => wpS s ρ S { K with nx := fun ρ1 S1 => wpSs ss ρ1 S1 K }
end
end
end DL

namespace DL
open PySem PySem.Spec PyProof.Rows L2

/-! ### judgements -/
abbrev TD := DEnv → DStore → QE → Prop
def Post (K : PySem.W.Frag) (η μ : List Addr) (H : Hp) (QD : QE) (v : V) (H' : Hp) : Prop := ∃ d S' μ', Grow μ H μ' H' ∧ Rp K η μ' S' H' ∧ RV K H' η μ' d v ∧ QD d S'
def Posts (K : PySem.W.Frag) (η μ : List Addr) (H : Hp) (QD : List D → DStore → Prop) (vs : List V) (H' : Hp) : Prop := ∃ ds S' μ', Grow μ H μ' H' ∧ Rp K η μ' S' H' ∧ RVs K H' η μ' ds vs ∧ QD ds S'
def PostA {α : Type} (K : PySem.W.Frag) (η μ : List Addr) (H : Hp) (QD : α → DStore → Prop) (b : α) (H' : Hp) : Prop := ∃ S' μ', Grow μ H μ' H' ∧ Rp K η μ' S' H' ∧ QD b S'
def tOf (K : PySem.W.Frag) (T : TD) : TE := fun σ H Q => ∃ η μ ρ S QD, RE K H η μ ρ σ ∧ Rp K η μ S H ∧ T ρ S QD ∧ ∀ v H', Post K η μ H QD v H' → Q v H'
def aOf (K : PySem.W.Frag) (n : Nat) (T : DEnv → DStore → (List D → DStore → Prop) → Prop) : TA := fun σ H Q => ∃ η μ ρ S QD, RE K H η μ ρ σ ∧ Rp K η μ S H ∧ T ρ S QD ∧ ∀ v H', Posts K η μ H QD v H' → v.length = n → Q v H'
def bOf {α : Type} (K : PySem.W.Frag) (T : DEnv → DStore → (α → DStore → Prop) → Prop) : St → Hp → (α → Hp → Prop) → Prop := fun σ H Q => ∃ η μ ρ S QD, RE K H η μ ρ σ ∧ Rp K η μ S H ∧ T ρ S QD ∧ ∀ v H', PostA K η μ H QD v H' → Q v H'
def DE (X : Cx) (e : Expr) (T : TD) : Prop := PE X e (tOf X.K T)
def DAs (X : Cx) (es : List Expr) (n : Nat) (T : DEnv → DStore → (List D → DStore → Prop) → Prop) : Prop := PA X es (aOf X.K n T)
def DB (X : Cx) (e : Expr) (T : DEnv → DStore → (Bool → DStore → Prop) → Prop) : Prop := PT X e (bOf X.K T)
def DO (X : Cx) (e : Option Expr) (T : DEnv → DStore → (Option Int → DStore → Prop) → Prop) : Prop := PO X e (bOf X.K T)
structure EndsOk (K : PySem.W.Frag) (η μ : List Addr) (H : Hp) (ED : DEnds) (E : Ends) : Prop where
  nx : ∀ ρ' S' σ' μ' H', Grow μ H μ' H' → Rp K η μ' S' H' → RE K H' η μ' ρ' σ' → ED.nx ρ' S' → E.nx σ' H'
  rt : ∀ d S' v μ' H', Grow μ H μ' H' → Rp K η μ' S' H' → RV K H' η μ' d v → ED.rt d S' → E.rt v H'
  bk : ∀ ρ' S' σ' μ' H', Grow μ H μ' H' → Rp K η μ' S' H' → RE K H' η μ' ρ' σ' → ED.bk ρ' S' → E.bk σ' H'
  ct : ∀ ρ' S' σ' μ' H', Grow μ H μ' H' → Rp K η μ' S' H' → RE K H' η μ' ρ' σ' → ED.ct ρ' S' → E.ct σ' H'
def sOf (K : PySem.W.Frag) (T : DEnv → DStore → DEnds → Prop) : TS := fun E σ H => ∃ η μ ρ S ED, RE K H η μ ρ σ ∧ Rp K η μ S H ∧ T ρ S ED ∧ EndsOk K η μ H ED E
def DS (X : Cx) (st : Stmt) (T : DEnv → DStore → DEnds → Prop) : Prop := PS X st (sOf X.K T)
def DSs (X : Cx) (st : List Stmt) (T : DEnv → DStore → DEnds → Prop) : Prop := PSs X st (sOf X.K T)
def JOk (K : PySem.W.Frag) (η μ : List Addr) (H : Hp) (J : It) (items : List D) (I : DStore → Prop) : Prop :=
  ∀ (i : Nat) η' μ' S' H', Ext η μ H η' μ' H' → Rp K η' μ' S' H' → I S' →
    (i < items.length → J.go i H' ∧ ∀ x H'', J.yld i H' x H'' → Grow μ' H' μ' H'' ∧ Rp K η' μ' S' H'' ∧ ∃ d, items[i]? = some d ∧ RV K H'' η' μ' d x) ∧ (items.length ≤ i → i ≤ items.length → J.stop i H')
def iOf (K : PySem.W.Frag) (T : DEnv → DStore → RI → Prop) : TI := fun σ H R => ∃ η μ ρ S RD, RE K H η μ ρ σ ∧ Rp K η μ S H ∧ T ρ S RD ∧
  ∀ J H1 items I S1 μ1, Grow μ H μ1 H1 → Rp K η μ1 S1 H1 → RD items I S1 → JOk K η μ1 H1 J items I → R J H1
def DI (X : Cx) (tg e : Expr) (T : DEnv → DStore → RI → Prop) : Prop := PI X tg e (iOf X.K T)

section
variable {X : Cx}
theorem PE.imp {e : Expr} {t t' : TE} (h : PE X e t) (i : ∀ σ H Q, t' σ H Q → t σ H Q) : PE X e t' := ⟨fun pins s σ H Q I q => h.run pins s σ H Q I (i _ _ _ q)⟩
theorem PT.imp {e : Expr} {t t' : TT} (h : PT X e t) (i : ∀ σ H Q, t' σ H Q → t σ H Q) : PT X e t' := ⟨fun pins s σ H Q I q => h.run pins s σ H Q I (i _ _ _ q)⟩
theorem PW.imp {e : Expr} {t t' : TT} (h : PW X e t) (i : ∀ σ H Q, t' σ H Q → t σ H Q) : PW X e t' := ⟨fun wh pins s σ H Q I q => h.run wh pins s σ H Q I (i _ _ _ q)⟩
theorem PTs.imp {e : List Expr} {t t' : TT} (h : PTs X e t) (i : ∀ σ H Q, t' σ H Q → t σ H Q) : PTs X e t' := ⟨fun pins s σ H Q I q => h.run pins s σ H Q I (i _ _ _ q)⟩
theorem PA.imp {e : List Expr} {t t' : TA} (h : PA X e t) (i : ∀ σ H Q, t' σ H Q → t σ H Q) : PA X e t' := ⟨fun pos pins s σ H Q I q => h.run pos pins s σ H Q I (i _ _ _ q)⟩
theorem PK.imp {e : List Keyword} {t t' : TA} (h : PK X e t) (i : ∀ σ H Q, t' σ H Q → t σ H Q) : PK X e t' := ⟨fun pos pins s σ H Q I q => h.run pos pins s σ H Q I (i _ _ _ q)⟩
theorem PO.imp {e : Option Expr} {t t' : TO} (h : PO X e t) (i : ∀ σ H Q, t' σ H Q → t σ H Q) : PO X e t' := ⟨fun pins s σ H Q I q => h.run pins s σ H Q I (i _ _ _ q)⟩
theorem PI.imp {tg e : Expr} {t t' : TI} (h : PI X tg e t) (i : ∀ σ H Q, t' σ H Q → t σ H Q) : PI X tg e t' := ⟨fun pins s σ H Q I q => h.run pins s σ H Q I (i _ _ _ q)⟩
theorem PS.imp {e : Stmt} {t t' : TS} (h : PS X e t) (i : ∀ E σ H, t' E σ H → t E σ H) : PS X e t' := ⟨fun pins s σ H E I q => h.run pins s σ H E I (i _ _ _ q)⟩
theorem PSs.imp {e : List Stmt} {t t' : TS} (h : PSs X e t) (i : ∀ E σ H, t' E σ H → t E σ H) : PSs X e t' := ⟨fun pins s σ H E I q => h.run pins s σ H E I (i _ _ _ q)⟩
theorem PI.or {tg e : Expr} {t t' : TI} (h : PI X tg e t) (h' : PI X tg e t') : PI X tg e (fun σ H R => t σ H R ∨ t' σ H R) := ⟨fun pins s σ H Q I q => q.elim (h.run pins s σ H Q I) (h'.run pins s σ H Q I)⟩
theorem PE.or {e : Expr} {t t' : TE} (h : PE X e t) (h' : PE X e t') : PE X e (fun σ H R => t σ H R ∨ t' σ H R) := ⟨fun pins s σ H Q I q => q.elim (h.run pins s σ H Q I) (h'.run pins s σ H Q I)⟩

theorem DE.mk {e : Expr} {t : TE} {T : TD} (h : PE X e t) (i : ∀ η μ ρ S σ H (Q : VK) (QD : QE), RE X.K H η μ ρ σ → Rp X.K η μ S H → T ρ S QD → (∀ v H', Post X.K η μ H QD v H' → Q v H') → t σ H Q) : DE X e T :=
  PE.imp h fun σ H Q ⟨η, μ, ρ, S, QD, hE, hR, hT, hQ⟩ => i η μ ρ S σ H Q QD hE hR hT hQ
theorem DB.mk {e : Expr} {t : TT} {T} (h : PT X e t) (i : ∀ η μ ρ S σ H (Q : Bool → Hp → Prop) (QD : Bool → DStore → Prop), RE X.K H η μ ρ σ → Rp X.K η μ S H → T ρ S QD → (∀ v H', PostA X.K η μ H QD v H' → Q v H') → t σ H Q) : DB X e T :=
  PT.imp h fun σ H Q ⟨η, μ, ρ, S, QD, hE, hR, hT, hQ⟩ => i η μ ρ S σ H Q QD hE hR hT hQ
theorem DS.mk {e : Stmt} {t : TS} {T} (h : PS X e t) (i : ∀ η μ ρ S σ H (E : Ends) (ED : DEnds), RE X.K H η μ ρ σ → Rp X.K η μ S H → T ρ S ED → EndsOk X.K η μ H ED E → t E σ H) : DS X e T :=
  PS.imp h fun E σ H ⟨η, μ, ρ, S, ED, hE, hR, hT, hQ⟩ => i η μ ρ S σ H E ED hE hR hT hQ
theorem DSs.mk {e : List Stmt} {t : TS} {T} (h : PSs X e t) (i : ∀ η μ ρ S σ H (E : Ends) (ED : DEnds), RE X.K H η μ ρ σ → Rp X.K η μ S H → T ρ S ED → EndsOk X.K η μ H ED E → t E σ H) : DSs X e T :=
  PSs.imp h fun E σ H ⟨η, μ, ρ, S, ED, hE, hR, hT, hQ⟩ => i η μ ρ S σ H E ED hE hR hT hQ
/-- one after another: hand on -/
theorem use {K : PySem.W.Frag} {η μ : List Addr} {ρ : DEnv} {S : DStore} {σ : St} {H : Hp} {T : TD} {QD : QE} {Q : VK} (hE : RE K H η μ ρ σ) (hR : Rp K η μ S H) (hT : T ρ S QD)
    (hQ : ∀ d S1 v μ1 H1, Grow μ H μ1 H1 → Rp K η μ1 S1 H1 → RE K H1 η μ1 ρ σ → RV K H1 η μ1 d v → QD d S1 → Q v H1) : tOf K T σ H Q :=
  ⟨η, μ, ρ, S, QD, hE, hR, hT, fun v H1 ⟨d, S1, μ1, g, r, rv, q⟩ => hQ d S1 v μ1 H1 g r (hE.ext g.ext) rv q⟩
theorem useA {K : PySem.W.Frag} {n : Nat} {η μ : List Addr} {ρ : DEnv} {S : DStore} {σ : St} {H : Hp} {T} {QD : List D → DStore → Prop} {Q : List V → Hp → Prop} (hE : RE K H η μ ρ σ) (hR : Rp K η μ S H) (hT : T ρ S QD)
    (hQ : ∀ ds S1 vs μ1 H1, Grow μ H μ1 H1 → Rp K η μ1 S1 H1 → RE K H1 η μ1 ρ σ → RVs K H1 η μ1 ds vs → vs.length = n → QD ds S1 → Q vs H1) : aOf K n T σ H Q :=
  ⟨η, μ, ρ, S, QD, hE, hR, hT, fun v H1 ⟨d, S1, μ1, g, r, rv, q⟩ hl => hQ d S1 v μ1 H1 g r (hE.ext g.ext) rv hl q⟩
theorem useB {α : Type} {K : PySem.W.Frag} {η μ : List Addr} {ρ : DEnv} {S : DStore} {σ : St} {H : Hp} {T} {QD : α → DStore → Prop} {Q : α → Hp → Prop} (hE : RE K H η μ ρ σ) (hR : Rp K η μ S H) (hT : T ρ S QD)
    (hQ : ∀ b S1 μ1 H1, Grow μ H μ1 H1 → Rp K η μ1 S1 H1 → RE K H1 η μ1 ρ σ → QD b S1 → Q b H1) : bOf K T σ H Q :=
  ⟨η, μ, ρ, S, QD, hE, hR, hT, fun v H1 ⟨S1, μ1, g, r, q⟩ => hQ v S1 μ1 H1 g r (hE.ext g.ext) q⟩
theorem useS {K : PySem.W.Frag} {η μ : List Addr} {ρ : DEnv} {S : DStore} {σ : St} {H : Hp} {T : DEnv → DStore → DEnds → Prop} {ED : DEnds} {E : Ends} (hE : RE K H η μ ρ σ) (hR : Rp K η μ S H) (hT : T ρ S ED) (hQ : EndsOk K η μ H ED E) : sOf K T E σ H :=
  ⟨η, μ, ρ, S, ED, hE, hR, hT, hQ⟩
theorem EndsOk.grow {K : PySem.W.Frag} {η μ μ1 : List Addr} {H H1 : Hp} {ED : DEnds} {E : Ends} (h : EndsOk K η μ H ED E) (g : Grow μ H μ1 H1) : EndsOk K η μ1 H1 ED E :=
  ⟨fun ρ S σ μ' H' g' => h.nx ρ S σ μ' H' (g.trans g'), fun ρ S σ μ' H' g' => h.rt ρ S σ μ' H' (g.trans g'), fun ρ S σ μ' H' g' => h.bk ρ S σ μ' H' (g.trans g'), fun ρ S σ μ' H' g' => h.ct ρ S σ μ' H' (g.trans g')⟩
end

/-! ### operations by values -/
section
variable {X : Cx} {K : PySem.W.Frag} {η μ : List Addr} {S : DStore} {H : Hp}
theorem lst_of (r : Rp K η μ S H) {d : D} {v : V} {xs : List D} (rv : RV K H η μ d v) (e : lstOf S d = some xs) : ∃ a vs, v = .ref a ∧ H a = some (.lst vs) ∧ RVs K H η μ xs vs := by
  cases rv with
  | lst hm hn h q => simp [lstOf] at e; subst e; exact ⟨_, _, rfl, h, q⟩
  | @ref n a h =>
    simp only [lstOf] at e
    cases q : S[n]? with
    | none => rw [q] at e; cases e
    | some c =>
      obtain ⟨b, hb, hc⟩ := r.cell n c q
      rw [h] at hb; cases hb
      rw [q] at e
      cases c with
      | lst ys =>
        simp at e; subst e
        obtain ⟨vs, e1, e2⟩ := hc
        exact ⟨a, vs, rfl, e1, e2⟩
      | dct ys => simp at e
      | dlk ys => simp at e
      | dkk ys => simp at e
      | dkl ys => simp at e
  | _ => simp [lstOf] at e
theorem seq_of (r : Rp K η μ S H) {d : D} {v : V} {xs : List D} (rv : RV K H η μ d v) (e : seqOf S d = some xs) : ∃ a vs, v = .ref a ∧ (SqL K H a vs ∨ SqT K H a vs) ∧ RVs K H η μ xs vs := by
  cases rv with
  | tup h q => simp [seqOf] at e; subst e; exact ⟨_, _, rfl, .inr h, q⟩
  | scr h q => simp [seqOf] at e; subst e; exact ⟨_, _, rfl, .inl (h.elim (fun ⟨o, z⟩ => .inl (.inr ⟨o, z⟩)) fun z => z H), q⟩
  | lst hm hn h q =>
    obtain ⟨a, vs, e1, e2, e3⟩ := lst_of r (.lst hm hn h q) e
    exact ⟨a, vs, e1, .inl (.inl (.inl e2)), e3⟩
  | ref h =>
    obtain ⟨a, vs, e1, e2, e3⟩ := lst_of r (.ref h) e
    exact ⟨a, vs, e1, .inl (.inl (.inl e2)), e3⟩
  | _ => simp [seqOf, lstOf] at e
/-- a new list, kept or to be changed -/
theorem new_lst (r : Rp K η μ S H) {m : Bool} {ds : List D} {vs : List V} {QD : QE} (rv : RVs K H η μ ds vs) (h : newL m ds S QD) (p : Addr) (hp : H p = none) : Post K η μ H QD (.ref p) (upd H p (.lst vs)) := by
  cases m with
  | true => exact ⟨_, _, _, grow_cell r hp, rp_cell r hp rv, rv_cell r, h⟩
  | false => exact ⟨_, _, _, grow_new r hp, rp_new r hp, rv_new_lst r hp rv, h⟩
theorem new_tup (r : Rp K η μ S H) {ds : List D} {vs : List V} {QD : QE} (rv : RVs K H η μ ds vs) (h : QD (.tup ds) S) (p : Addr) (hp : H p = none) : Post K η μ H QD (.ref p) (upd H p (.tup vs)) :=
  ⟨_, _, _, grow_new r hp, rp_new r hp, rv_new_tup r hp rv, h⟩
theorem stay (r : Rp K η μ S H) {d : D} {v : V} {QD : QE} (rv : RV K H η μ d v) (h : QD d S) : Post K η μ H QD v H := ⟨_, _, _, .refl, r, rv, h⟩
theorem Post.from {μ1 : List Addr} {H1 H' : Hp} {QD : QE} {v : V} (g : Grow μ H μ1 H1) (h : Post K η μ1 H1 QD v H') : Post K η μ H QD v H' :=
  let ⟨d, S', μ', g', r, rv, q⟩ := h
  ⟨d, S', μ', g.trans g', r, rv, q⟩
theorem RV.intI {v : V} {i : Int} (h : RV K H η μ (.int i) v) : v = .int i := by cases h; rfl

/-- an operator by data -/
def BinR (X : Cx) (op : Operator) (r : R2) : Prop := OpR X (binaryOp op) r ∧ ∀ {η μ S H m x y v u QD Q}, Rp X.K η μ S H → RV X.K H η μ x v → RV X.K H η μ y u → binD op m x y S QD → (∀ v H', Post X.K η μ H QD v H' → Q v H') → r v u H Q
theorem rI_of {C : Int → Int → Prop} {g : Int → Int → Int} {x y : D} {v u : V} {QD : QE} {Q : VK} (r : Rp K η μ S H) (rx : RV K H η μ x v) (ry : RV K H η μ y u) (h : i2 x y fun i j => C i j ∧ QD (.int (g i j)) S) (hQ : ∀ v H', Post K η μ H QD v H' → Q v H') :
    L2.rI C (fun i j => .int (g i j)) v u H Q := by
  cases rx <;> cases ry <;> simp only [i2] at h
  exact ⟨_, _, rfl, rfl, h.1, hQ _ _ (stay r (.int _) h.2)⟩
theorem rI0_of {g : Int → Int → Int} {x y : D} {v u : V} {QD : QE} {Q : VK} (r : Rp K η μ S H) (rx : RV K H η μ x v) (ry : RV K H η μ y u) (h : i2 x y fun i j => QD (.int (g i j)) S) (hQ : ∀ v H', Post K η μ H QD v H' → Q v H') :
    L2.rI0 (fun i j => .int (g i j)) v u H Q := by
  cases rx <;> cases ry <;> simp only [i2] at h
  exact ⟨_, _, rfl, rfl, hQ _ _ (stay r (.int _) h)⟩
theorem op_fdivA : OpR X (binaryOp .FloorDiv) (L2.rI (fun _ j => DivOk j) fun i j => .int (i.fdiv j)) := opI fun i j _ _ _ _ _ hc q => floordiv_int hc.1 q (.inl (PyProof.noPylong_of_log2 hc.2))
theorem op_mulA : OpR X (binaryOp .Mult) (L2.rI MulOk fun i j => .int (i * j)) := opI fun _ _ _ _ _ _ _ hc q => mul_int q (hc.elim (fun h => h.ok) fun h => h.ok)
theorem rvs_rep {K : PySem.W.Frag} {η μ : List Addr} {H : Hp} {ds : List D} {xs : List V} (q : RVs K H η μ ds xs) : ∀ n : Nat, RVs K H η μ (List.replicate n ds).flatten (List.replicate n xs).flatten
  | 0 => .nil
  | n + 1 => by rw [List.replicate_succ, List.replicate_succ, List.flatten_cons, List.flatten_cons]; exact q.append (rvs_rep q n)
def rCatTD (K : PySem.W.Frag) : R2 := rCatT K
theorem binR : ∀ op, ∃ r, BinR X op r
  | .Add => ⟨_, op_add.or (op_add_str.or (op_catA.or op_cat)), fun {η μ S H m x y v u QD Q} r rx ry h hQ => by
      simp only [binD, addD] at h
      split at h
      · cases rx; cases ry; exact .inl ⟨_, _, rfl, rfl, hQ _ _ (stay r (.int _) h)⟩
      · cases rx; cases ry; exact .inr (.inl ⟨_, _, rfl, rfl, h.1, hQ _ _ (stay r (.str _) h.2)⟩)
      · cases rx with
        | @tup a xs ds h1 q1 =>
          cases ry with
          | @tup b ys es h2 q2 =>
            refine .inr (.inr (.inl ⟨_, _, _, _, rfl, rfl, h1, h2, ?_, ?_, ?_, ?_⟩))
            · rw [← q1.length, ← q2.length]; exact h.1
            · intro z; subst z; cases q1; exact hQ _ _ (stay r (.tup h2 q2) h.2)
            · intro _ z; subst z; cases q2; rw [List.append_nil] at h; exact hQ _ _ (stay r (.tup h1 q1) h.2)
            · intro _ _ p hp; exact hQ _ _ (new_tup r (q1.append q2) h.2 p hp)
      · obtain ⟨a, b, e1, e2, hl, hn⟩ := h
        obtain ⟨p1, v1, rfl, h1, q1⟩ := lst_of r rx e1
        obtain ⟨p2, v2, rfl, h2, q2⟩ := lst_of r ry e2
        exact .inr (.inr (.inr ⟨_, _, _, _, rfl, rfl, h1, h2, by rw [← q1.length, ← q2.length]; exact hl, fun p hp => hQ _ _ (new_lst r (q1.append q2) hn p hp)⟩))⟩
  | .Sub => ⟨_, op_sub, fun r rx ry h hQ => rI0_of r rx ry h hQ⟩
  | .Mult => ⟨_, op_mulA.or (op_repT.or (op_rep1.or (op_rep0.or op_rep))), fun {η μ S H m x y v u QD Q} r rx ry h hQ => by
      simp only [binD, mulD] at h
      split at h
      · cases rx; cases ry; exact .inl ⟨_, _, rfl, rfl, h.1, hQ _ _ (stay r (.int _) h.2)⟩
      · cases ry
        rename_i k
        obtain ⟨h0, h1, h2, h3, h4⟩ := h
        cases rx with
        | @tup a xs _ ht q1 =>
          by_cases hk : k = 1
          · subst hk
            refine .inr (.inr (.inl ⟨_, _, rfl, rfl, ht, hQ _ _ (stay r (.tup ht q1) ?_)⟩))
            simpa using h4
          by_cases hk0 : k = 0
          · subst hk0
            refine .inr (.inr (.inr (.inl ⟨_, _, rfl, rfl, ht, fun z => ?_, fun p hp => hQ _ _ (new_tup r .nil ?_ p hp)⟩)))
            · subst z
              cases q1
              exact h0 rfl
            · simpa using h4
          refine .inr (.inl ⟨_, _, _, rfl, rfl, ht, fun z => ?_, by omega, h2, by rw [← q1.length]; exact h3, fun p hp => hQ _ _ (new_tup r (rvs_rep q1 _) h4 p hp)⟩)
          subst z
          cases q1
          exact h0 rfl
      · obtain ⟨a, e1, h1, h2, hl, hn⟩ := h
        obtain ⟨p1, v1, rfl, hp1, q1⟩ := lst_of r rx e1
        cases ry
        rename_i k _
        have rep : ∀ n : Nat, RVs X.K H η μ (List.replicate n a).flatten (List.replicate n v1).flatten := fun n => by
          induction n with
          | zero => exact .nil
          | succ n ih => rw [List.replicate_succ, List.replicate_succ, List.flatten_cons, List.flatten_cons]; exact q1.append ih
        exact .inr (.inr (.inr (.inr ⟨_, _, _, rfl, rfl, hp1, h1, h2, by rw [← q1.length]; exact hl, fun p hp => hQ _ _ (new_lst r (rep _) hn p hp)⟩)))
      · exact h.elim⟩
  | .FloorDiv => ⟨_, op_fdivA, fun r rx ry h hQ => rI_of r rx ry h hQ⟩
  | .Mod => ⟨_, op_modN, fun r rx ry h hQ => rI_of r rx ry h hQ⟩
  | .Pow => ⟨_, op_pow, fun r rx ry h hQ => rI_of r rx ry h hQ⟩
  | .LShift => ⟨_, op_shlW, fun r rx ry h hQ => rI_of r rx ry h hQ⟩
  | .RShift => ⟨_, op_shr, fun r rx ry h hQ => rI_of r rx ry h hQ⟩
  | .MatMult => ⟨fun _ _ _ _ => False, fun _ _ _ _ _ _ _ _ _ _ _ _ h => h.elim, fun _ _ _ h _ => h.elim⟩
  | .Div => ⟨fun _ _ _ _ => False, fun _ _ _ _ _ _ _ _ _ _ _ _ h => h.elim, fun _ _ _ h _ => h.elim⟩
  | .BitOr => ⟨fun _ _ _ _ => False, fun _ _ _ _ _ _ _ _ _ _ _ _ h => h.elim, fun _ _ _ h _ => h.elim⟩
  | .BitXor => ⟨fun _ _ _ _ => False, fun _ _ _ _ _ _ _ _ _ _ _ _ h => h.elim, fun _ _ _ h _ => h.elim⟩
  | .BitAnd => ⟨fun _ _ _ _ => False, fun _ _ _ _ _ _ _ _ _ _ _ _ h => h.elim, fun _ _ _ h _ => h.elim⟩
end
end DL

namespace DL
open PySem PySem.Spec PyProof.Rows L2
section
variable {X : Cx} {K : PySem.W.Frag} {η μ : List Addr} {S : DStore} {H : Hp}
mutual
theorem dp_of : ∀ {d : D} {v : V} {p : PyData}, RV K H η μ d v → pur d = some p → Dp K H v p
  | _, _, _, .non, e => by simp [pur] at e; subst e; exact .non
  | _, _, _, .bl b, e => by simp [pur] at e; subst e; exact .bl b
  | _, _, _, .int b, e => by simp [pur] at e; subst e; exact .int b
  | _, _, _, .str b, e => by simp [pur] at e; subst e; exact .str b
  | _, _, _, .tup h q, e => by
    simp only [pur, Option.map_eq_some_iff] at e
    obtain ⟨ps, e1, rfl⟩ := e
    exact .tup h (dps_of q e1)
  | _, _, _, .lst hm hn h q, e => by
    simp only [pur, Option.map_eq_some_iff] at e
    obtain ⟨ps, e1, rfl⟩ := e
    exact .lst (.inl (.inl h)) (dps_of q e1)
  | _, _, _, .scr _ _, e => by simp [pur] at e
  | _, _, _, .ref _, e => by simp [pur] at e
theorem dps_of : ∀ {ds : List D} {vs : List V} {ps : List PyData}, RVs K H η μ ds vs → purs ds = some ps → DpAll K H vs ps
  | _, _, _, .nil, e => by simp [purs] at e; subst e; exact .nil
  | _, _, _, .cons h q, e => by
    simp only [purs, Option.bind_eq_some_iff, Option.map_eq_some_iff] at e
    obtain ⟨p, e1, ps, e2, rfl⟩ := e
    exact .cons (dp_of h e1) (dps_of q e2)
end
theorem dpS_of (r : Rp K η μ S H) {d : D} {v : V} {p : PyData} (rv : RV K H η μ d v) (e : purS S d = some p) : Dp K H v p := by
  cases rv with
  | @ref n a h =>
    simp only [purS, Option.map_eq_some_iff, Option.bind_eq_some_iff] at e
    obtain ⟨ps, ⟨xs, e1, e2⟩, rfl⟩ := e
    obtain ⟨b, vs, e3, e4, q⟩ := lst_of r (.ref h) e1
    cases e3
    exact .lst (.inl (.inl e4)) (dps_of q e2)
  | non => exact dp_of (η := η) (μ := μ) .non e
  | bl b => exact dp_of (η := η) (μ := μ) (.bl b) e
  | int b => exact dp_of (η := η) (μ := μ) (.int b) e
  | str b => exact dp_of (η := η) (μ := μ) (.str b) e
  | tup h q => exact dp_of (η := η) (μ := μ) (.tup h q) e
  | lst hm hn h q => exact dp_of (.lst hm hn h q) e
  | scr h q => exact dp_of (η := η) (μ := μ) (.scr h q) e
  | key h => simp [purS, pur] at e
mutual
theorem dp_E : ∀ {v : V} {p : PyData}, Dp K H v p → DpE K H v p
  | _, _, .non => .non
  | _, _, .bl b => .bl b
  | _, _, .int b => .int b
  | _, _, .str b => .str b
  | _, _, .lst h q => .lst h (dps_E q)
  | _, _, .tup h q => .tup h (dps_E q)
theorem dps_E : ∀ {vs : List V} {ps : List PyData}, DpAll K H vs ps → DpEs K H vs ps
  | _, _, .nil => .nil
  | _, _, .cons h q => .cons (dp_E h) (dps_E q)
end
mutual
theorem dpE_of (r : Rp K η μ S H) : ∀ {d : D} {v : V} {p : PyData}, RV K H η μ d v → purE S d = some p → DpE K H v p
  | _, _, _, .non, e => by simp [purE] at e; subst e; exact .non
  | _, _, _, .bl b, e => by simp [purE] at e; subst e; exact .bl b
  | _, _, _, .int b, e => by simp [purE] at e; subst e; exact .int b
  | _, _, _, .str b, e => by simp [purE] at e; subst e; exact .str b
  | _, _, _, .tup h q, e => by
    simp only [purE, Option.map_eq_some_iff] at e
    obtain ⟨ps, e1, rfl⟩ := e
    exact .tup h (dpsE_of r q e1)
  | _, _, _, .lst hm hn h q, e => by
    simp only [purE, Option.map_eq_some_iff] at e
    obtain ⟨ps, e1, rfl⟩ := e
    exact .lst (.inl (.inl h)) (dpsE_of r q e1)
  | _, _, _, .scr _ _, e => by simp [purE] at e
  | .ref n, .ref a, p, .ref h, e => by
    unfold purE at e
    split at e
    · rename_i hc
      cases e
      obtain ⟨b, hb, vs, h1, h2⟩ := r.cell n _ hc
      rw [h] at hb; cases hb
      cases h2
      exact .dct (.inl h1)
    · rename_i xs hc
      simp only [Option.map_eq_some_iff] at e
      obtain ⟨ps, e1, rfl⟩ := e
      obtain ⟨b, vs, e3, e4, q⟩ := lst_of r (.ref h) (show lstOf S (.ref n) = some xs by simp only [lstOf, hc])
      cases e3
      exact .lst (.inl (.inl e4)) (dps_E (dps_of q e1))
    · cases e
theorem dpsE_of (r : Rp K η μ S H) : ∀ {ds : List D} {vs : List V} {ps : List PyData}, RVs K H η μ ds vs → pursE S ds = some ps → DpEs K H vs ps
  | _, _, _, .nil, e => by simp [pursE] at e; subst e; exact .nil
  | _, _, _, .cons h q, e => by
    simp only [pursE, Option.bind_eq_some_iff, Option.map_eq_some_iff] at e
    obtain ⟨p, e1, ps, e2, rfl⟩ := e
    exact .cons (dpE_of r h e1) (dpsE_of r q e2)
end
theorem app_of : ∀ {ds es : List D} {vs ws : List V}, RVs K H η μ ds vs → RVs K H η μ es ws → RVs K H η μ (ds ++ es) (vs ++ ws)
  | _, _, _, _, .nil, q => q
  | _, _, _, _, .cons a b, q => .cons a (app_of b q)
theorem rev_of : ∀ {ds : List D} {vs : List V}, RVs K H η μ ds vs → RVs K H η μ ds.reverse vs.reverse
  | _, _, .nil => .nil
  | _, _, .cons a b => by
    rw [List.reverse_cons, List.reverse_cons]
    exact app_of (rev_of b) (.cons a .nil)
theorem flat_of {d : D} {v : V} (rv : RV K H η μ d v) (f : flatD d = true) : v = toV d ∧ flatV v = true := by
  cases rv <;> first | exact ⟨rfl, rfl⟩ | simp [flatD] at f
theorem flats_of : ∀ {ds : List D} {vs : List V}, RVs K H η μ ds vs → ds.all flatD = true → vs = ds.map toV ∧ vs.all flatV = true
  | _, _, .nil, _ => ⟨rfl, rfl⟩
  | _, _, .cons h q, e => by
    simp only [List.all_cons, Bool.and_eq_true] at e
    obtain ⟨a, b⟩ := flat_of h e.1
    obtain ⟨c, d⟩ := flats_of q e.2
    refine ⟨by rw [List.map_cons, ← a, ← c], ?_⟩
    simp only [List.all_cons, b, d, Bool.and_self]
theorem ints_of : ∀ {ds : List D} {vs : List V} {is : List Int}, RVs K H η μ ds vs → ds.mapM inOf = some is → vs = is.map V.int
  | _, _, _, .nil, e => by simp at e; subst e; rfl
  | _, _, _, .cons h q, e => by
    simp only [List.mapM_cons, Option.bind_eq_bind, Option.bind_eq_some_iff] at e
    obtain ⟨i, e1, is, e2, e3⟩ := e
    cases e3
    cases h <;> simp [inOf] at e1
    subst e1
    rw [ints_of q e2]; rfl
theorem bls_of : ∀ {ds : List D} {vs : List V} {is : List Bool}, RVs K H η μ ds vs → ds.mapM blOf = some is → vs = is.map V.bl
  | _, _, _, .nil, e => by simp at e; subst e; rfl
  | _, _, _, .cons h q, e => by
    simp only [List.mapM_cons, Option.bind_eq_bind, Option.bind_eq_some_iff] at e
    obtain ⟨i, e1, is, e2, e3⟩ := e
    cases e3
    cases h <;> simp [blOf] at e1
    subst e1
    rw [bls_of q e2]; rfl

theorem strs_of : ∀ {ys : List Str} {vs : List V}, RVs K H η μ (ys.map D.str) vs → vs = ys.map V.str
  | [], _, h => by cases h; rfl
  | y :: ys, _, h => by
    cases h with
    | cons a b => cases a; rw [strs_of b]; rfl
/-! ### comparisons -/
def CmpR (X : Cx) (op : CmpOp) (r : R2) : Prop := OpR X (compareOp op) r ∧ ∀ {η μ S H x y v u QB} {Q : VK}, Rp X.K η μ S H → RV X.K H η μ x v → RV X.K H η μ y u → cmpD op S x y QB → (∀ b, QB b → Q (.bl b) H) → r v u H Q
theorem cI_of {g : Int → Int → Bool} {x y : D} {v u : V} {QB : Bool → Prop} {Q : VK} (rx : RV K H η μ x v) (ry : RV K H η μ y u) (h : i2 x y fun i j => QB (g i j)) (hQ : ∀ b, QB b → Q (.bl b) H) : L2.rI0 (fun i j => .bl (g i j)) v u H Q := by
  cases rx <;> cases ry <;> simp only [i2] at h
  exact ⟨_, _, rfl, rfl, hQ _ h⟩
theorem dct_of (r : Rp K η μ S H) {n : Nat} {v : V} {kvs : List (List L2.Key × D)} (rv : RV K H η μ (.ref n) v) (e : dctOf S n = some kvs) : ∃ a vs, v = .ref a ∧ Rd H a (.dT vs) ∧ RKs K H η μ kvs vs := by
  cases rv with
  | @ref n a h =>
    unfold dctOf at e
    split at e
    · rename_i k hc
      cases e
      obtain ⟨b, hb, vs, h1, h2⟩ := r.cell n _ hc
      rw [h] at hb; cases hb
      exact ⟨a, vs, rfl, .inl h1, h2⟩
    · rename_i k hc
      cases e
      obtain ⟨b, hb, ob, vs, h1, h2⟩ := r.cell n _ hc
      rw [h] at hb; cases hb
      exact ⟨a, vs, rfl, .inr ⟨ob, h1⟩, h2⟩
    · cases e
theorem dkk_of (r : Rp K η μ S H) {n : Nat} {v : V} {kvs : List (L2.Key × D)} (rv : RV K H η μ (.ref n) v) (e : dkkOf S n = some kvs) : ∃ a vs, v = .ref a ∧ Rd H a (.dK vs) ∧ RKs K H η μ kvs vs := by
  cases rv with
  | @ref n a h =>
    unfold dkkOf at e
    split at e
    · rename_i k hc
      cases e
      obtain ⟨b, hb, vs, h1, h2⟩ := r.cell n _ hc
      rw [h] at hb; cases hb
      exact ⟨a, vs, rfl, .inl h1, h2⟩
    · rename_i k hc
      cases e
      obtain ⟨b, hb, ob, vs, h1, h2⟩ := r.cell n _ hc
      rw [h] at hb; cases hb
      exact ⟨a, vs, rfl, .inr ⟨ob, h1⟩, h2⟩
    · cases e
theorem relO_some {o : Option V} {α : Type} {w : Option α} {f : α → Value} (h : RelO o (w.map f)) : w.isSome = o.isSome := by
  cases o <;> cases w <;> first | rfl | exact h.elim | cases h
def rOrdD (K : PySem.W.Frag) (f : PyData → PyData → Bool) : R2 := fun x y H Q => ∃ p q, Dp K H x p ∧ Dp K H y q ∧ PySem.W.alike p q = true ∧ p ≠ .none ∧ p.depth ≤ 10 ∧ Q (.bl (f p q)) H
theorem op_ltD (hu : X.A.units + 64 < cLine) : OpR X (compareOp .Lt) (rOrdD X.K fun p q => PySem.W.dataLt p q) := by
  intro pins s σ H x y v u Q I rx ry h
  obtain ⟨p, q, hp, hq, al, hn, hd, h⟩ := h
  obtain ⟨as, r1⟩ := Dp.reads I p x v hp rx
  obtain ⟨bs, r2⟩ := Dp.reads I q y u hq ry
  exact PySem.W.lt_data r1 r2 al hn (by omega) ⟨.bl _, H, I, rfl, h⟩
theorem op_leD (hu : X.A.units + 64 < cLine) : OpR X (compareOp .LtE) (rOrdD X.K fun p q => !PySem.W.dataLt q p) := by
  intro pins s σ H x y v u Q I rx ry h
  obtain ⟨p, q, hp, hq, al, hn, hd, h⟩ := h
  obtain ⟨as, r1⟩ := Dp.reads I p x v hp rx
  obtain ⟨bs, r2⟩ := Dp.reads I q y u hq ry
  exact PySem.W.le_data r1 r2 al hn (by omega) ⟨.bl _, H, I, rfl, h⟩
theorem op_gtD (hu : X.A.units + 64 < cLine) : OpR X (compareOp .Gt) (rOrdD X.K fun p q => PySem.W.dataLt q p) := by
  intro pins s σ H x y v u Q I rx ry h
  obtain ⟨p, q, hp, hq, al, hn, hd, h⟩ := h
  obtain ⟨as, r1⟩ := Dp.reads I p x v hp rx
  obtain ⟨bs, r2⟩ := Dp.reads I q y u hq ry
  exact PySem.W.gt_data r1 r2 al hn (by omega) ⟨.bl _, H, I, rfl, h⟩
theorem op_geD (hu : X.A.units + 64 < cLine) : OpR X (compareOp .GtE) (rOrdD X.K fun p q => !PySem.W.dataLt p q) := by
  intro pins s σ H x y v u Q I rx ry h
  obtain ⟨p, q, hp, hq, al, hn, hd, h⟩ := h
  obtain ⟨as, r1⟩ := Dp.reads I p x v hp rx
  obtain ⟨bs, r2⟩ := Dp.reads I q y u hq ry
  exact PySem.W.ge_data r1 r2 al hn (by omega) ⟨.bl _, H, I, rfl, h⟩
theorem ord_of (r : Rp K η μ S H) {g : Int → Int → Bool} {f : PyData → PyData → Bool} {x y : D} {v u : V} {QB : Bool → Prop} {Q : VK} (rx : RV K H η μ x v) (ry : RV K H η μ y u) (h : ordD g f S x y QB) (hQ : ∀ b, QB b → Q (.bl b) H) : L2.rI0 (fun i j => .bl (g i j)) v u H Q ∨ rOrdD K f v u H Q := by
  unfold ordD at h
  split at h
  · cases rx; cases ry; exact .inl ⟨_, _, rfl, rfl, hQ _ h⟩
  · obtain ⟨p, q, e1, e2, al, hn, hd, h⟩ := h
    exact .inr ⟨p, q, dpS_of r rx e1, dpS_of r ry e2, al, hn, hd, hQ _ h⟩
/-- in of a dict whose keys are tuples -/
def rInDT (K : PySem.W.Frag) (neg : Bool) : R2 := fun x y H Q => ∃ (a b : Addr) (kvs : List (List L2.Key × V)) (ks : List L2.Key), x = .ref b ∧ y = .ref a ∧ Rd H a (.dT kvs) ∧ SqT K H b (ks.map kV) ∧ Q (.bl (if neg then !(valV kvs ks).isSome else (valV kvs ks).isSome)) H
theorem op_inDT (hu : X.A.units + 64 < cLine) : OpR X (compareOp .In) (rInDT X.K false) := by
  intro pins s σ H x y v u Q I rx ry h
  obtain ⟨a, b, kvs, ks, rfl, rfl, e, hb, q⟩ := h
  cases rx; cases ry
  obtain ⟨z, hd, xs, rel, dd⟩ := dt_rd I.hok e
  have hv := rel.val ks
  have e2 : (atKey xs ks).isSome = (valV kvs ks).isSome := relO_some hv
  refine wpAny_in_heap (tupleKind_room_in1 (by omega)) (key_ofS I hb) hd dd ⟨.bl _, H, I.tok _, rfl, ?_⟩
  rw [e2]; exact q
theorem op_notInDT (hu : X.A.units + 64 < cLine) : OpR X (compareOp .NotIn) (rInDT X.K true) := by
  intro pins s σ H x y v u Q I rx ry h
  obtain ⟨a, b, kvs, ks, rfl, rfl, e, hb, q⟩ := h
  cases rx; cases ry
  obtain ⟨z, hd, xs, rel, dd⟩ := dt_rd I.hok e
  have hv := rel.val ks
  have e2 : (atKey xs ks).isSome = (valV kvs ks).isSome := relO_some hv
  refine wpAny_notIn_heap (tupleKind_room_in1 (by omega)) (key_ofS I hb) hd dd ⟨.bl _, H, I.tok _, rfl, ?_⟩
  rw [e2]; exact q
theorem val_some {kvs : List (List L2.Key × D)} {vs : List (List L2.Key × V)} (q : RKs K H η μ kvs vs) (ks : List L2.Key) : (valD kvs ks).isSome = (valV vs ks).isSome := by
  have h := q.val ks
  cases e : valD kvs ks with
  | none => rw [h.2 e]; rfl
  | some d => obtain ⟨v, ev, _⟩ := h.1 d e; rw [ev]; rfl
theorem in_dct (r : Rp K η μ S H) {neg : Bool} {x y : D} {v u : V} {QB : Bool → Prop} {Q : VK} (ry : RV K H η μ y u) {n : Nat} {kvs : List (List L2.Key × D)} {ks : List L2.Key} {b : Addr} (hv : v = .ref b) (hb : SqT K H b (ks.map kV)) (e : y = .ref n) (ed : dctOf S n = some kvs) (q : (fun b => QB (if neg then !b else b)) (valD kvs ks).isSome) (hQ : ∀ b, QB b → Q (.bl b) H) : rInDT K neg v u H Q := by
  subst e hv
  obtain ⟨a, vs, rfl, ha, qk⟩ := dct_of r ry ed
  exact ⟨a, b, vs, ks, rfl, rfl, ha, hb, hQ _ (by rw [← val_some qk]; exact q)⟩
theorem dec_int (i j : Int) : decide (V.int i = V.int j) = decide (i = j) := by by_cases h : i = j <;> simp [h]
theorem dec_bl (i j : Bool) : decide (V.bl i = V.bl j) = decide (i = j) := by by_cases h : i = j <;> simp [h]
theorem dec_str (i j : Str) : decide (V.str i = V.str j) = decide (i = j) := by by_cases h : i = j <;> simp [h]
theorem eq_of_data (r : Rp K η μ S H) {x y : D} {v u : V} {QB : Bool → Prop} {Q : VK} (rx : RV K H η μ x v) (ry : RV K H η μ y u) (h : eqD S x y QB) (hQ : ∀ b, QB b → Q (.bl b) H) :
    rEq v u H Q ∨ rEqD K v u H Q := by
  simp only [eqD] at h
  split at h
  · cases rx; cases ry; exact .inl ⟨rfl, hQ _ (by rw [dec_int]; exact h)⟩
  · cases rx; cases ry; exact .inl ⟨rfl, hQ _ (by rw [dec_bl]; exact h)⟩
  · cases rx; cases ry; exact .inl ⟨rfl, hQ _ (by rw [dec_str]; exact h)⟩
  · obtain ⟨p, q, e1, e2, s1, s2, h⟩ := h
    exact .inr ⟨p, q, dpS_of r rx e1, dpS_of r ry e2, s1, s2, hQ _ h⟩
theorem ne_of_data (r : Rp K η μ S H) {x y : D} {v u : V} {QB : Bool → Prop} {Q : VK} (rx : RV K H η μ x v) (ry : RV K H η μ y u) (h : eqD S x y fun b => QB (!b)) (hQ : ∀ b, QB b → Q (.bl b) H) :
    rNe v u H Q ∨ rNeD K v u H Q := by
  simp only [eqD] at h
  split at h
  · cases rx; cases ry; exact .inl ⟨rfl, hQ _ (by rw [dec_int]; exact h)⟩
  · cases rx; cases ry; exact .inl ⟨rfl, hQ _ (by rw [dec_bl]; exact h)⟩
  · cases rx; cases ry; exact .inl ⟨rfl, hQ _ (by rw [dec_str]; exact h)⟩
  · obtain ⟨p, q, e1, e2, s1, s2, h⟩ := h
    exact .inr ⟨p, q, dpS_of r rx e1, dpS_of r ry e2, s1, s2, hQ _ h⟩
theorem in_of (r : Rp K η μ S H) {neg : Bool} {x y : D} {v u : V} {QB : Bool → Prop} {Q : VK} (rx : RV K H η μ x v) (ry : RV K H η μ y u) (h : ∃ xs, seqOf S y = some xs ∧ flatD x = true ∧ xs.all flatD = true ∧ (fun b => QB (if neg then !b else b)) (inV (toV x) (xs.map toV))) (hQ : ∀ b, QB b → Q (.bl b) H) : rIn K neg v u H Q := by
  obtain ⟨xs, e, f, fs, q⟩ := h
  obtain ⟨a, vs, rfl, hq, qs⟩ := seq_of r ry e
  obtain ⟨e1, f1⟩ := flat_of rx f
  obtain ⟨e2, f2⟩ := flats_of qs fs
  exact ⟨a, vs, rfl, hq, f1, f2, hQ _ (by rw [e1, e2]; exact q)⟩
theorem in_of2 (r : Rp K η μ S H) {x y : D} {v u : V} {QB : Bool → Prop} {Q : VK} (rx : RV K H η μ x v) (ry : RV K H η μ y u) (h : inD S x y QB) (hQ : ∀ b, QB b → Q (.bl b) H) : rIn K false v u H Q ∨ rInTup K v u H Q ∨ rInLst K v u H Q ∨ rInDT K false v u H Q := by
  unfold inD at h
  split at h
  · obtain ⟨n, kvs, e, ed, q⟩ := h
    cases rx with
    | key hk => exact .inr (.inr (.inr (in_dct (x := y) (neg := false) r ry rfl (.inl (.inl hk)) e ed q hQ)))
  · rcases h with ⟨n, kvs, ks, e, ed, ek, q⟩ | ⟨p, ys, ps, e1, rfl, e2, s1, s2, d1, q⟩ | ⟨p, ps, e1, e2, s1, s2, d1, q⟩
    · cases rx with
      | tup hb qb =>
        have eb := keysOf_rv qb ek
        subst eb
        exact .inr (.inr (.inr (in_dct (x := y) (neg := false) r ry rfl hb e ed q hQ)))
    · exact .inr (.inl ⟨p, ps, dp_of rx e1, dp_of ry (by simp only [pur, e2]; rfl), s1, s2, d1, hQ _ q⟩)
    · exact .inr (.inr (.inl ⟨p, ps, dp_of rx e1, dpS_of r ry e2, s1, s2, d1, hQ _ q⟩))
  · exact .inl (in_of (neg := false) r rx ry h hQ)
theorem in_of3 (r : Rp K η μ S H) {x y : D} {v u : V} {QB : Bool → Prop} {Q : VK} (rx : RV K H η μ x v) (ry : RV K H η μ y u) (h : inD S x y fun b => QB (!b)) (hQ : ∀ b, QB b → Q (.bl b) H) : rIn K true v u H Q ∨ rNotInTup K v u H Q ∨ rNotInLst K v u H Q ∨ rInDT K true v u H Q := by
  unfold inD at h
  split at h
  · obtain ⟨n, kvs, e, ed, q⟩ := h
    cases rx with
    | key hk => exact .inr (.inr (.inr (in_dct (x := y) (neg := true) r ry rfl (.inl (.inl hk)) e ed q hQ)))
  · rcases h with ⟨n, kvs, ks, e, ed, ek, q⟩ | ⟨p, ys, ps, e1, rfl, e2, s1, s2, d1, q⟩ | ⟨p, ps, e1, e2, s1, s2, d1, q⟩
    · cases rx with
      | tup hb qb =>
        have eb := keysOf_rv qb ek
        subst eb
        exact .inr (.inr (.inr (in_dct (x := y) (neg := true) r ry rfl hb e ed q hQ)))
    · exact .inr (.inl ⟨p, ps, dp_of rx e1, dp_of ry (by simp only [pur, e2]; rfl), s1, s2, d1, hQ _ q⟩)
    · exact .inr (.inr (.inl ⟨p, ps, dp_of rx e1, dpS_of r ry e2, s1, s2, d1, hQ _ q⟩))
  · exact .inl (in_of (neg := true) r rx ry h hQ)
theorem non_iff {x : D} {v : V} (rx : RV K H η μ x v) : decide (v = .non) = isNon x := by
  cases rx <;> simp [isNon]
theorem cmpR (hu : X.A.units + 64 < cLine) : ∀ op, ∃ r, CmpR X op r
  | .Lt => ⟨_, op_lt.or (op_ltD hu), fun r rx ry h hQ => ord_of r rx ry h hQ⟩
  | .LtE => ⟨_, op_le.or (op_leD hu), fun r rx ry h hQ => ord_of r rx ry h hQ⟩
  | .Gt => ⟨_, op_gt.or (op_gtD hu), fun r rx ry h hQ => ord_of r rx ry h hQ⟩
  | .GtE => ⟨_, op_ge.or (op_geD hu), fun r rx ry h hQ => ord_of r rx ry h hQ⟩
  | .Eq => ⟨_, op_eq.or (op_eqD hu), fun r rx ry h hQ => eq_of_data r rx ry h hQ⟩
  | .NotEq => ⟨_, op_ne.or (op_neD hu), fun r rx ry h hQ => ne_of_data r rx ry h hQ⟩
  | .In => ⟨_, op_in_seq.or ((op_inTup hu).or ((op_inLst hu).or (op_inDT hu))), fun r rx ry h hQ => in_of2 r rx ry h hQ⟩
  | .NotIn => ⟨_, op_notIn_seq.or ((op_notInTup hu).or ((op_notInLst hu).or (op_notInDT hu))), fun r rx ry h hQ => in_of3 r rx ry h hQ⟩
  | .Is => ⟨_, op_isN.or op_isBl, fun {η μ S H x y v u QB Q} r rx ry h hQ => by
      simp only [cmpD, isD] at h
      split at h
      · cases ry; exact .inl ⟨rfl, hQ _ (by rw [non_iff rx]; exact h)⟩
      · obtain ⟨c, rfl, h⟩ := h
        cases ry; cases rx; exact .inr ⟨_, _, rfl, rfl, hQ _ h⟩
      · exact h.elim⟩
  | .IsNot => ⟨_, op_notN.or op_notBl, fun {η μ S H x y v u QB Q} r rx ry h hQ => by
      simp only [cmpD, isD] at h
      split at h
      · cases ry; exact .inl ⟨rfl, hQ _ (by rw [non_iff rx]; exact h)⟩
      · obtain ⟨c, rfl, h⟩ := h
        cases ry; cases rx; exact .inr ⟨_, _, rfl, rfl, hQ _ h⟩
      · exact h.elim⟩

/-! ### truth, items, slices -/
theorem tru_of (r : Rp K η μ S H) {x : D} {v : V} {QB : Bool → Prop} (rx : RV K H η μ x v) (h : truD S x QB) : ∃ k, TruV K v H k ∧ QB k := by
  simp only [truD] at h
  split at h
  · cases rx; exact ⟨false, rfl, h⟩
  · cases rx; exact ⟨_, rfl, h⟩
  · cases rx; exact ⟨_, rfl, h⟩
  · cases rx; exact ⟨_, ⟨h.1, rfl⟩, h.2⟩
  · obtain ⟨xs, e, q⟩ := h
    obtain ⟨a, vs, rfl, hq, qs⟩ := seq_of r rx e
    have el : xs.isEmpty = vs.isEmpty := by
      cases qs <;> rfl
    rw [el] at q
    rcases hq with hq | hq
    · exact ⟨_, .inl ⟨vs, hq, rfl⟩, q⟩
    · exact ⟨_, .inr (.inl ⟨vs, hq, rfl⟩), q⟩
theorem atI_of {xs : List D} {vs : List V} {i : Int} {d : D} (q : RVs K H η μ xs vs) (e : atI xs i = some d) : ∃ v, atI vs i = some v ∧ RV K H η μ d v := by
  unfold atI at e ⊢
  rw [← q.length]
  cases h : ixN xs.length i with
  | none => rw [h] at e; cases e
  | some j =>
    rw [h] at e
    exact q.get e
theorem ix_of (r : Rp K η μ S H) {x y : D} {v u : V} {QD : D → Prop} {Q : VK} (rx : RV K H η μ x v) (ry : RV K H η μ y u) (h : ixD S x y QD) (hQ : ∀ d v, RV K H η μ d v → QD d → Q v H) : rIx K v u H Q ∨ rIxD K v u H Q := by
  simp only [ixD] at h
  split at h
  · split at h
    · obtain ⟨c, h1, h2, h3⟩ := h
      cases rx; cases ry
      exact .inl (.inr (.inr ⟨_, _, c, rfl, rfl, h1, h2, hQ _ _ (.str _) h3⟩))
    · obtain ⟨xs, d, h1, h2, h3⟩ := h
      cases ry
      obtain ⟨a, vs, rfl, hq, qs⟩ := seq_of r rx h1
      obtain ⟨w, e, rw'⟩ := atI_of qs h2
      rcases hq with hq | hq
      · exact .inl (.inl ⟨_, _, _, w, rfl, rfl, hq, e, hQ _ _ rw' h3⟩)
      · exact .inl (.inr (.inl ⟨_, _, _, w, rfl, rfl, hq, e, hQ _ _ rw' h3⟩))
  · obtain ⟨n, kvs, ks, d, rfl, h1, h2, h3, h4⟩ := h
    obtain ⟨a, vs, rfl, ha, qk⟩ := dct_of r rx h1
    cases ry with
    | tup hb qb =>
      have eb := keysOf_rv qb h2
      subst eb
      obtain ⟨w, hw, rw'⟩ := (qk.val ks).1 d h3
      exact .inr ⟨a, _, vs, ks, w, rfl, rfl, ha, hb, hw, hQ _ _ rw' h4⟩
  · obtain ⟨n, kvs, d, rfl, h1, h3, h4⟩ := h
    rename_i ks
    obtain ⟨a, vs, rfl, ha, qk⟩ := dct_of r rx h1
    cases ry with
    | key hb =>
      obtain ⟨w, hw, rw'⟩ := (qk.val ks).1 d h3
      exact .inr ⟨a, _, vs, ks, w, rfl, rfl, ha, .inl (.inl hb), hw, hQ _ _ rw' h4⟩
  · exact h.elim
theorem cut_of {xs : List D} {vs : List V} (q : RVs K H η μ xs vs) (lo hi : Option Int) : RVs K H η μ (cutD xs lo hi) (cutV vs lo hi) := by
  unfold cutD cutV
  rw [← q.length]
  exact (q.drop _).take _
end
end DL

namespace DL
open PySem PySem.Spec PyProof.Rows L2
/-! ### defs, where no text of a thing is being made around (so repr is plain) -/
/-- the def at f keeps sp, called from where no repr is under way -/
structure FnG (P : Program) (w : World) (K : PySem.W.Frag) (mg : Str → Option Value) (base : Heap) (k : Nat) (f : Addr) (fd : FuncData) (ps : List Str) (sp : List V → Hp → VK → Prop) : Prop where
  len : ∀ vs H Q, sp vs H Q → vs.length = ps.length
  run : ∀ (A : Around) (outer : List Env) (s : Shared) (H : Hp) (args : Args) (us : List Value) (vs : List V) (Q : VK), A.guards = some [] → Room k A → Env0 P w K mg base A outer s H →
    BindsTo s fd args (ps.zip us) → Vals vs us → sp vs H Q → codeAny (model P w) A (.call (.ref f) args) (CR L2.CX0 outer P w H s Q L2.E0) s
section
variable {P : Program} {w : World} {K : PySem.W.Frag} {mg : Str → Option Value} {base : Heap} {k j : Nat} {f : Addr} {fd : FuncData} {ps : List Str} {sp sp' : List V → Hp → VK → Prop}
theorem FnG.mono (F : FnG P w K mg base j f fd ps sp) (h : j ≤ k) : FnG P w K mg base k f fd ps sp :=
  ⟨F.len, fun A o s H args us vs Q hg hr => F.run A o s H args us vs Q hg (hr.mono h)⟩
theorem FnG.imp (F : FnG P w K mg base k f fd ps sp) (h : ∀ vs H Q, sp' vs H Q → sp vs H Q) : FnG P w K mg base k f fd ps sp' :=
  ⟨fun vs H Q q => F.len vs H Q (h _ _ _ q), fun A o s H args us vs Q hg hr he hb hv hs => F.run A o s H args us vs Q hg hr he hb hv (h _ _ _ hs)⟩
end
/-- the context of a def's body -/
abbrev cxG (P : Program) (w : World) (K : PySem.W.Frag) (mg : Str → Option Value) (base : Heap) (N : List Str) (qual : Str) (st : Stmt) (f : Addr) (cdv : Value) (A : Around) (outer : List Env) (s : Shared) (H : Hp) : Cx :=
  (cxOf L2.CX0 P w K mg base N qual (L2.defScope st) f cdv A outer s H L2.E0).nox
theorem fnG_of {P : Program} {w : World} {K : PySem.W.Frag} {mg : Str → Option Value} {base : Heap} {x qual : Str} {st : Stmt} {f : Addr} {fd : FuncData} {N ps : List Str} {k : Nat} {sp : List V → Hp → VK → Prop}
    (F : L2.Fun K x qual st f fd) (Sc : FnScope N ps (L2.defScope st)) (len : ∀ vs H Q, sp vs H Q → vs.length = ps.length)
    (body : ∀ (cdv : Value) (A : Around) (outer : List Env) (s : Shared) (H : Hp) (vs : List V) (Q : VK), A.guards = some [] → Room k (A.deeper (envOfC qual (L2.defScope st) s.heap.objs.size f cdv)) → sp vs H Q →
      ∃ t, PSs (cxG P w K mg base N qual st f cdv A outer s H) (L2.defBody st) t ∧ t { nx := fun _ H' => Q .non H', rt := Q } (start N vs) H) :
    FnG P w K mg base (k + 1) f fd ps sp := by
  obtain ⟨oc, od, kV, doc, pm, an, cdv, ct, osl, efd, lk, hcd⟩ := F.ex
  subst efd
  constructor
  · exact len
  intro A outer s H args us vs Q hg room e0 hbt rvs hq
  have hlen := len vs H Q hq
  have keepB := fun b o e => (e0.bs b o e).1
  have kin : K.In s.heap := e0.mod.kin.keeps keepB
  have noLim : s.heap.NoLimit := e0.mod.nolimit.keeps keepB
  refine codeAny_call_function room.depth (kin _ _ lk) rfl Sc.co Sc.gen rfl (PySem.W.codeRec_of kin hcd) (hbt _ _ _ _ ?_)
  refine wpAny_newFunctionEnv_cells Sc.kind (fun y hy => ?kinds) fun env he s1 new => ?rest
  case kinds =>
    obtain ⟨nm, val⟩ := y
    exact (Sc.par nm (List.of_mem_zip hy).1).imp id fun q => ⟨q, PySem.W.cellsFrom_some _ _ _ (.inl q)⟩
  case rest =>
    subst he
    obtain ⟨t, der, ans⟩ := body cdv A outer s H vs Q hg (room.deeper _) hq
    have start0 := inv_start (CX := L2.CX0) (E := L2.E0) Sc room.hd e0 hlen rvs new
    refine ⟨noLim.keeps new.toInCall.keep, codeAny_func ?_⟩
    refine wpAny_mono ((PSs.nox der).run [] s1 (start N vs) H _ start0 ans) (fun fl s' out => ?_) fun e s' out => out
    match fl, out with
    | .ret u, ⟨v, σ', H', J, rv, q⟩ => exact ⟨v, H', J.os, J.bare, J.base, J.hok, rv, q⟩
    | .next, ⟨σ', H', J, q⟩ => exact ⟨.non, H', J.os, J.bare, J.base, J.hok, rfl, q⟩
    | .brk, ⟨_, _, _, q⟩ => exact q.elim
    | .cont, ⟨_, _, _, q⟩ => exact q.elim

section
variable {X : Cx} {k : Nat} {f : Addr} {fd : FuncData} {ps ks : List Str} {sp : List V → Hp → VK → Prop} {x : Str} {p pos : Pos} {e : Expr} {es : List Expr} {kws : List Keyword} {t tk : TA} {g : List Value → List Value → List Value} {gV : List V → List V → List V}
theorem runG {pins : List (Addr × Obj)} {σ : L2.St} {H : Hp} {s : Shared} {Q : VK} {us ws : List Value} {vs zs : List V} (F : FnG X.prog X.w X.K X.mg X.base k f fd ps sp) (hr : Room k X.A) (hG : X.A.guards = some []) (hb : KBinds X.K fd ps ks g gV)
    (I : Inv X pins σ H s) (r : Vals vs us) (rz : Vals zs ws) (h : sp (gV vs zs) H Q) : wpAny (model X.prog X.w) X.A (call (.ref f) us (ks.zip ws)) (EP X pins σ Q) X.xe s := by
  have both := hb.rel r rz
  refine wpAny_call (codeAny_mono (F.run X.A X.stack s H ⟨us, ks.zip ws⟩ _ _ Q hG hr I.env0 (hb.to s us ws I.kIn ?_) both h) fun res s' hq => ?_)
  · exact both.length.symm.trans (F.len _ _ _ h)
  · match res, hq with
    | .ok (.ret u), hq => exact I.after hq
    | .ok .next, hq => exact hq.elim
    | .ok .brk, hq => exact hq.elim
    | .ok .cont, hq => exact hq.elim
    | .error er, hq => exact hq.elim
theorem pe_callG (F : FnG X.prog X.w X.K X.mg X.base k f fd ps sp) (hr : Room k X.A) (hG : X.A.guards = some []) (hg : Gl X x) (hm : X.mg x = some (.ref f)) (hk : PySem.W.keepIn X.K (.ref f) = true) (hb : KBinds X.K fd ps ks g gV)
    (ha : PA X (e :: es) t) (hkw : PK X kws tk) (hall : (backToKw pos (keywordEach kws X.env)).all (·.1.isSome) = true) (hks : (backToKw pos (keywordEach kws X.env)).filterMap (·.1) = ks)
    (hdb : (x == ("__debug__" : Str)) = false) (he : starEach (e :: es) X.env = (false, eval e X.env) :: starEach es X.env)
    (hpl : ((backTo pos (starEach (e :: es) X.env)).any (·.1) || (backToKw pos (keywordEach kws X.env)).any (·.1.isNone)) = false) :
    PE X (.Call (.Name x p) (e :: es) kws pos) (fun σ H Q => t σ H fun vs H1 => tk σ H1 fun zs H2 => sp (gV vs zs) H2 Q) := by
  constructor
  intro pins s σ H Q I h
  refine wpAny_Call_Name_kw (ld_glob I hg hm ?_ hdb)
  refine PySem.W.callWith_KW (h₀ := X.base) I.ok.mod.kin hk hall (thn (ha.run pos pins s σ H _ I h) fun us s1 out1 => ?_) hpl he
  obtain ⟨vs, H1, I1, rel1, q1⟩ := out1
  refine thn (hkw.run pos pins s1 σ H1 _ I1 q1) fun ws s2 out2 => ?_
  obtain ⟨zs, H2, I2, rel2, q2⟩ := out2
  rw [hks]
  exact ⟨I2.kIn, runG F hr hG hb I2 rel1 rel2 q2⟩
theorem pe_callG0 (F : FnG X.prog X.w X.K X.mg X.base k f fd ps sp) (hr : Room k X.A) (hG : X.A.guards = some []) (hg : Gl X x) (hm : X.mg x = some (.ref f)) (hk : PySem.W.keepIn X.K (.ref f) = true) (hb : KBinds X.K fd ps ks g gV)
    (hkw : PK X kws tk) (hall : (backToKw pos (keywordEach kws X.env)).all (·.1.isSome) = true) (hks : (backToKw pos (keywordEach kws X.env)).filterMap (·.1) = ks)
    (hdb : (x == ("__debug__" : Str)) = false) (hpl : ((backTo pos (starEach [] X.env)).any (·.1) || (backToKw pos (keywordEach kws X.env)).any (·.1.isNone)) = false) :
    PE X (.Call (.Name x p) [] kws pos) (fun σ H Q => tk σ H fun zs H2 => sp (gV [] zs) H2 Q) := by
  constructor
  intro pins s σ H Q I h
  refine wpAny_Call_Name_kw (ld_glob I hg hm ?_ hdb)
  refine PySem.W.callWith_KW0 (h₀ := X.base) I.ok.mod.kin hk hall (thn (hkw.run pos pins s σ H _ I h) fun ws s2 out2 => ?_) hpl
  obtain ⟨zs, H2, I2, rel2, q2⟩ := out2
  rw [hks]
  exact ⟨I2.kIn, runG (us := []) F hr hG hb I2 .nil rel2 q2⟩
/-- repr of data -/
theorem call_reprD (hG : X.A.guards = some []) (hu : X.A.units + 64 < cLine) : CallR X (.builtin "repr") (fun xs H Q => ∃ v d, xs = [v] ∧ Dp X.K H v d ∧ RepOk d ∧ Q (.str d.shown) H) := by
  intro pins s σ H xs us Q I r h
  obtain ⟨v, d, rfl, hd, ok, q⟩ := h
  obtain ⟨u, rfl, ru⟩ := vals1 r
  obtain ⟨as, rd⟩ := Dp.reads I d v u hd ru
  have dep := ok.dp
  cases hd with
  | int i => obtain ⟨t, rfl⟩ := ru; exact PySem.P.repr_of_int (by have := ok.sh; simpa [PyData.showable] using this) ⟨.str _, H, I.tok _, ⟨_, rfl⟩, q⟩
  | lst h1 h2 =>
    cases ru
    refine repr_of_reads' rd ok.sh (fun z => absurd (ok.nd.symm.trans z) (by decide)) hG (by omega) (fun _ _ e => e) (fun h' t tk hk => ?_) ok.sz
    exact ⟨.str _, H, I.kept hk, ⟨_, rfl⟩, q⟩
  | tup h1 h2 =>
    cases ru
    refine repr_of_reads' rd ok.sh (fun z => absurd (ok.nd.symm.trans z) (by decide)) hG (by omega) (fun _ _ e => e) (fun h' t tk hk => ?_) ok.sz
    exact ⟨.str _, H, I.kept hk, ⟨_, rfl⟩, q⟩
  | non => cases ru; exact PySem.P.repr_of_none ⟨.str _, H, I.tok _, ⟨_, rfl⟩, q⟩
  | bl b => cases ru; exact PySem.P.repr_of_bool ⟨.str _, H, I.tok _, ⟨_, rfl⟩, (by cases b <;> exact q)⟩
  | str y => obtain ⟨t, rfl⟩ := ru; exact PySem.P.repr_of_str ⟨.str _, H, I.tok _, ⟨_, rfl⟩, q⟩ ok.sz
end
end DL

namespace DL
open PySem PySem.Spec PyProof.Rows L2
def BI.name : BI → Str
  | .len => "len" | .abs => "abs" | .min2 => "min" | .max2 => "max" | .int1 => "int" | .tuple1 => "tuple" | .list1 => "list" | .all1 => "all" | .any1 => "any" | .repr1 => "repr" | .sum1 => "sum" | .min1 => "min" | .max1 => "max" | .sorted1 => "sorted" | .reprE => "repr" | .min3 => "min" | .max3 => "max" | .str1 => "str" | .listD => "list" | .intS => "int" | .sortT => "sorted" | .sortL => "sorted"
def BI.val : BI → Value
  | .len => .builtin "len" | .abs => .builtin "abs" | .min2 => .builtin "min" | .max2 => .builtin "max" | .int1 => .type "int" | .tuple1 => .type "tuple" | .list1 => .type "list" | .all1 => .builtin "all" | .any1 => .builtin "any"
  | .repr1 => .builtin "repr" | .sum1 => .builtin "sum" | .min1 => .builtin "min" | .max1 => .builtin "max" | .sorted1 => .builtin "sorted" | .reprE => .builtin "repr" | .min3 => .builtin "min" | .max3 => .builtin "max" | .str1 => .type "str" | .listD => .type "list" | .intS => .type "int" | .sortT => .builtin "sorted" | .sortL => .builtin "sorted"
theorem BI.boot : ∀ b : BI, bootBuiltins b.name = some b.val := by
  intro b; cases b <;> decide +kernel
theorem BI.nm : ∀ b : BI, b.name ≠ "__name__" ∧ (b.name == ("__debug__" : Str)) = false := by
  intro b; cases b <;> exact ⟨by decide +kernel, by decide +kernel⟩
section
variable {X : Cx} {K : PySem.W.Frag} {η μ : List Addr} {S : DStore} {H : Hp}
def BiR (X : Cx) (b : BI) (r : List V → Hp → VK → Prop) : Prop := CallR X b.val r ∧ ∀ {η μ S H m ds vs QD Q}, Rp X.K η μ S H → RVs X.K H η μ ds vs → biD b m ds S QD → (∀ v H', Post X.K η μ H QD v H' → Q v H') → r vs H Q
theorem rvs_perm : ∀ {ds : List D} {vs ys : List V}, RVs K H η μ ds vs → ys.Perm vs → ∃ ds', ds'.Perm ds ∧ RVs K H η μ ds' ys := by
  intro ds vs ys h p
  induction p generalizing ds with
  | nil => exact ⟨ds, .refl _, h⟩
  | cons x p ih =>
    cases h with
    | cons a b =>
      obtain ⟨ds', e1, e2⟩ := ih b
      exact ⟨_ :: ds', e1.cons _, .cons a e2⟩
  | swap x y l =>
    cases h with
    | cons a b =>
      cases b with
      | cons c d => exact ⟨_, List.Perm.swap .., .cons c (.cons a d)⟩
  | trans p1 p2 ih1 ih2 =>
    obtain ⟨d1, e1, r1⟩ := ih2 h
    obtain ⟨d2, e2, r2⟩ := ih1 r1
    exact ⟨d2, e2.trans e1, r2⟩
theorem ints_rv : ∀ ns : List Int, RVs K H η μ (ns.map D.int) (ns.map V.int)
  | [] => .nil
  | n :: ns => .cons (.int n) (ints_rv ns)
theorem rks_pair : ∀ {kvs : List (List L2.Key × D)} {vs : List (List L2.Key × V)}, RKs K H η μ kvs vs → (∀ p ∈ kvs, ∃ i j : Int, p.1 = [Sum.inl i, Sum.inl j]) → ∀ p ∈ vs, ∃ i j : Int, p.1 = [Sum.inl i, Sum.inl j]
  | _, _, .nil, _, p, hp => absurd hp (by simp)
  | _, _, .cons a b, h, p, hp => by
    rcases List.mem_cons.mp hp with rfl | hp
    · exact h _ (List.mem_cons_self ..)
    · exact rks_pair b (fun q hq => h q (List.mem_cons_of_mem _ hq)) p hp
theorem rks_SI : ∀ {kvs : List (List L2.Key × D)} {vs : List (List L2.Key × V)}, RKs K H η μ kvs vs → (∀ p ∈ kvs, SI p.1) → ∀ p ∈ vs, SI p.1
  | _, _, .nil, _, p, hp => absurd hp (by simp)
  | _, _, .cons a b, h, p, hp => by
    rcases List.mem_cons.mp hp with rfl | hp
    · exact h _ (List.mem_cons_self ..)
    · exact rks_SI b (fun q hq => h q (List.mem_cons_of_mem _ hq)) p hp
theorem rks_keys : ∀ {kvs : List (List L2.Key × D)} {vs : List (List L2.Key × V)} {bs : List Addr}, RKs K H η μ kvs vs → IsKeys H vs bs → RVs K H η μ (kvs.map fun p => D.tup (p.1.map keyD)) (bs.map V.ref)
  | _, _, _, .nil, .nil => .nil
  | _, _, _, .cons a b, .cons h t => .cons (.tup (.inl (.inl h)) (keyD_rv _)) (rks_keys b t)
theorem pur_tI (r : List Int) : pur (tI r) = some (.tuple (r.map PyData.int)) := by
  have : ∀ r : List Int, purs (r.map D.int) = some (r.map PyData.int) := fun r => by
    induction r with
    | nil => rfl
    | cons x r ih => simp only [List.map_cons, purs, pur, ih, Option.bind_some, Option.map_some]
  simp only [tI, pur, this, Option.map_some]
theorem rvs_pairs : ∀ {bs : List (V × List Int)}, (∀ b ∈ bs, RV K H η μ (tI b.2) b.1) → RVs K H η μ (bs.map (tI ∘ (·.2))) (bs.map (·.1))
  | [], _ => .nil
  | b :: bs, h => .cons (h b (List.mem_cons_self ..)) (rvs_pairs fun c hc => h c (List.mem_cons_of_mem _ hc))
theorem rvs1 {d : D} {vs : List V} (h : RVs K H η μ [d] vs) : ∃ v, vs = [v] ∧ RV K H η μ d v := by
  cases h with
  | cons a b => cases b; exact ⟨_, rfl, a⟩
theorem rvs2 {d e : D} {vs : List V} (h : RVs K H η μ [d, e] vs) : ∃ v w, vs = [v, w] ∧ RV K H η μ d v ∧ RV K H η μ e w := by
  cases h with
  | cons a b => obtain ⟨w, rfl, c⟩ := rvs1 b; exact ⟨_, _, rfl, a, c⟩
theorem noR : BiR X b (fun _ _ _ => False) → True := fun _ => trivial
theorem readsAll_ints {h : Heap} : ∀ {ns : List Int} {its : List Value}, Vals (ns.map V.int) its → ReadsAll h its (ns.map PyData.int) []
  | [], _, r => by cases r; exact .nil
  | n :: ns, _, r => by
    cases r with
    | cons a b =>
      obtain ⟨t, rfl⟩ := a
      exact .cons (as := []) (bs := []) (.int _ _) (readsAll_ints b)
theorem depth_ints : ∀ xs : List Int, PyData.depthAll (xs.map .int) = 0
  | [] => rfl
  | x :: xs => by simp [PyData.depthAll, PyData.depth, depth_ints xs]
theorem alike_ints (n : Int) (ns : List Int) : PySem.W.AlikeAll (.int n :: ns.map .int) := by
  have h : ∀ x ∈ (PyData.int n :: ns.map .int), ∃ k, x = .int k := by
    intro x hx
    rcases List.mem_cons.mp hx with rfl | hx
    · exact ⟨_, rfl⟩
    · obtain ⟨k, _, rfl⟩ := List.mem_map.mp hx; exact ⟨_, rfl⟩
  refine ⟨fun x hx y hy => ?_, fun x hx => ?_⟩
  · obtain ⟨i, rfl⟩ := h x hx
    obtain ⟨j, rfl⟩ := h y hy
    rfl
  · obtain ⟨i, rfl⟩ := h x hx
    exact fun z => nomatch z
theorem foldl_min : ∀ (ns : List Int) (n : Int), ns.foldl min n ∈ n :: ns ∧ ∀ y ∈ n :: ns, ns.foldl min n ≤ y
  | [], n => ⟨by simp, fun y hy => by simp at hy; subst hy; exact Int.le_refl _⟩
  | m :: ns, n => by
    obtain ⟨h1, h2⟩ := foldl_min ns (min n m)
    simp only [List.foldl_cons]
    have h3 := h2 (min n m) (by simp)
    refine ⟨?_, fun y hy => ?_⟩
    · rcases List.mem_cons.mp h1 with h | h
      · rw [h]
        rcases Int.le_total n m with z | z
        · rw [Int.min_eq_left z]; simp
        · rw [Int.min_eq_right z]; simp
      · simp [h]
    · rcases List.mem_cons.mp hy with rfl | hy
      · omega
      · rcases List.mem_cons.mp hy with rfl | hy
        · omega
        · exact h2 y (by simp [hy])
theorem foldl_max : ∀ (ns : List Int) (n : Int), ns.foldl max n ∈ n :: ns ∧ ∀ y ∈ n :: ns, y ≤ ns.foldl max n
  | [], n => ⟨by simp, fun y hy => by simp at hy; subst hy; exact Int.le_refl _⟩
  | m :: ns, n => by
    obtain ⟨h1, h2⟩ := foldl_max ns (max n m)
    simp only [List.foldl_cons]
    have h3 := h2 (max n m) (by simp)
    refine ⟨?_, fun y hy => ?_⟩
    · rcases List.mem_cons.mp h1 with h | h
      · rw [h]
        rcases Int.le_total n m with z | z
        · rw [Int.max_eq_right z]; simp
        · rw [Int.max_eq_left z]; simp
      · simp [h]
    · rcases List.mem_cons.mp hy with rfl | hy
      · omega
      · rcases List.mem_cons.mp hy with rfl | hy
        · omega
        · exact h2 y (by simp [hy])
theorem cr_minT (hc : X.calm = true) (hu : X.A.units + 64 < cLine) : CallR X (.builtin "min") (fun vs H Q => ∃ (a : Addr) (ns : List Int), vs = [V.ref a] ∧ SqT X.K H a (ns.map V.int) ∧ 0 < ns.length ∧ ∀ m, m ∈ ns → (∀ y, y ∈ ns → m ≤ y) → Q (.int m) H) := by
  intro pins s σ H vs us Q I r h
  obtain ⟨a, ns, rfl, hs, hne, q⟩ := h
  obtain ⟨its, rv, p, _⟩ := I.tuple hs
  rw [Vals.ref1 r]
  cases ns with
  | nil => exact absurd hne (by simp)
  | cons n ns =>
    refine PySem.W.min_tuple_data (x := .int n) (xs := ns.map .int) (as := []) (I.ok.hd hc) (show s.heap.IsTuple a its.toArray from p) (readsAll_ints (ns := n :: ns) rv) (alike_ints n ns) (by rw [show PyData.int n :: ns.map .int = (n :: ns).map .int from rfl, depth_ints]; omega) fun i v h' tk bs hi rd hk => ?_
    rw [PySem.W.minD_ints] at rd
    cases rd
    obtain ⟨h1, h2⟩ := foldl_min ns n
    exact ⟨.int _, H, I.kept hk, ⟨_, rfl⟩, q _ h1 h2⟩
theorem cr_maxT (hc : X.calm = true) (hu : X.A.units + 64 < cLine) : CallR X (.builtin "max") (fun vs H Q => ∃ (a : Addr) (ns : List Int), vs = [V.ref a] ∧ SqT X.K H a (ns.map V.int) ∧ 0 < ns.length ∧ ∀ m, m ∈ ns → (∀ y, y ∈ ns → y ≤ m) → Q (.int m) H) := by
  intro pins s σ H vs us Q I r h
  obtain ⟨a, ns, rfl, hs, hne, q⟩ := h
  obtain ⟨its, rv, p, _⟩ := I.tuple hs
  rw [Vals.ref1 r]
  cases ns with
  | nil => exact absurd hne (by simp)
  | cons n ns =>
    refine PySem.W.max_tuple_data (x := .int n) (xs := ns.map .int) (as := []) (I.ok.hd hc) (show s.heap.IsTuple a its.toArray from p) (readsAll_ints (ns := n :: ns) rv) (alike_ints n ns) (by rw [show PyData.int n :: ns.map .int = (n :: ns).map .int from rfl, depth_ints]; omega) fun i v h' tk bs hi rd hk => ?_
    rw [PySem.W.maxD_ints] at rd
    cases rd
    obtain ⟨h1, h2⟩ := foldl_max ns n
    exact ⟨.int _, H, I.kept hk, ⟨_, rfl⟩, q _ h1 h2⟩
theorem tl_of (r : Rp K η μ S H) {d : D} {v : V} {xs : List D} (rv : RV K H η μ d v) (e : tlOf S d = some xs) : ∃ a vs, v = .ref a ∧ (SqL K H a vs ∨ SqT K H a vs) ∧ RVs K H η μ xs vs := by
  cases rv with
  | tup h q => simp [tlOf] at e; subst e; exact ⟨_, _, rfl, .inr h, q⟩
  | lst hm hn h q =>
    obtain ⟨a, vs, e1, e2, e3⟩ := lst_of r (.lst hm hn h q) e
    exact ⟨a, vs, e1, .inl (.inl (.inl e2)), e3⟩
  | ref h =>
    obtain ⟨a, vs, e1, e2, e3⟩ := lst_of r (.ref h) e
    exact ⟨a, vs, e1, .inl (.inl (.inl e2)), e3⟩
  | _ => simp [tlOf, lstOf] at e
theorem uniq_min {bs : List Int} {m m' : Int} (h1 : m ∈ bs) (h2 : ∀ y ∈ bs, m ≤ y) (h3 : m' ∈ bs) (h4 : ∀ y ∈ bs, m' ≤ y) : m' = m := by
  have := h2 m' h3; have := h4 m h1; omega
theorem uniq_max {bs : List Int} {m m' : Int} (h1 : m ∈ bs) (h2 : ∀ y ∈ bs, y ≤ m) (h3 : m' ∈ bs) (h4 : ∀ y ∈ bs, y ≤ m') : m' = m := by
  have := h2 m' h3; have := h4 m h1; omega
theorem rvs3 {d e f : D} {vs : List V} (h : RVs K H η μ [d, e, f] vs) : ∃ v w u, vs = [v, w, u] ∧ RV K H η μ d v ∧ RV K H η μ e w ∧ RV K H η μ f u := by
  cases h with
  | cons a b => obtain ⟨w, u, rfl, c, d⟩ := rvs2 b; exact ⟨_, _, _, rfl, a, c, d⟩
theorem biR (hc : X.calm = true) (hG : X.A.guards = some []) (hu : X.A.units + 64 < cLine) : ∀ b, ∃ r, BiR X b r
  | .len => ⟨_, call_len, fun {η μ S H m ds vs QD Q} r rv h hQ => by
      unfold biD at h
      split at h <;> first | exact h.elim | skip
      all_goals try (rename_i e1; cases e1)
      · obtain ⟨v, rfl, a⟩ := rvs1 rv; cases a
        exact ⟨_, _, rfl, ⟨h.1, rfl⟩, hQ _ _ (stay r (.int _) h.2)⟩
      · obtain ⟨v, rfl, a⟩ := rvs1 rv
        obtain ⟨xs, e, q⟩ := h
        obtain ⟨b, vs, rfl, hq, qs⟩ := seq_of r a e
        rw [qs.length] at q
        rcases hq with hq | hq
        · exact ⟨_, _, rfl, .inl ⟨_, hq, rfl⟩, hQ _ _ (stay r (.int _) q)⟩
        · exact ⟨_, _, rfl, .inr ⟨_, hq, rfl⟩, hQ _ _ (stay r (.int _) q)⟩⟩
  | .abs => ⟨_, call_abs, fun {η μ S H m ds vs QD Q} r rv h hQ => by
      unfold biD at h
      split at h <;> first | exact h.elim | skip
      all_goals try (rename_i e1; cases e1)
      · obtain ⟨v, rfl, a⟩ := rvs1 rv; cases a
        exact ⟨_, rfl, hQ _ _ (stay r (.int _) h)⟩⟩
  | .min2 => ⟨_, call_min2 hc, fun {η μ S H m ds vs QD Q} r rv h hQ => by
      unfold biD at h
      split at h <;> first | exact h.elim | skip
      all_goals try (rename_i e1; cases e1)
      · obtain ⟨v, w, rfl, a, b⟩ := rvs2 rv; cases a; cases b
        exact ⟨_, _, rfl, hQ _ _ (stay r (.int _) h)⟩⟩
  | .max2 => ⟨_, call_max2 hc, fun {η μ S H m ds vs QD Q} r rv h hQ => by
      unfold biD at h
      split at h <;> first | exact h.elim | skip
      all_goals try (rename_i e1; cases e1)
      · obtain ⟨v, w, rfl, a, b⟩ := rvs2 rv; cases a; cases b
        exact ⟨_, _, rfl, hQ _ _ (stay r (.int _) h)⟩⟩
  | .int1 => ⟨_, call_int1, fun {η μ S H m ds vs QD Q} r rv h hQ => by
      unfold biD at h
      split at h <;> first | exact h.elim | skip
      all_goals try (rename_i e1; cases e1)
      · obtain ⟨v, rfl, a⟩ := rvs1 rv; cases a
        exact .inl ⟨_, rfl, hQ _ _ (stay r (.int _) h)⟩
      · obtain ⟨v, rfl, a⟩ := rvs1 rv; cases a
        exact .inr ⟨_, rfl, hQ _ _ (stay r (.int _) h)⟩⟩
  | .tuple1 => ⟨_, call_tuple_of, fun {η μ S H m ds vs QD Q} r rv h hQ => by
      unfold biD at h
      split at h <;> first | exact h.elim | skip
      all_goals try (rename_i e1; cases e1)
      · obtain ⟨v, rfl, a⟩ := rvs1 rv
        cases a with
        | tup h1 q1 => exact ⟨_, _, rfl, .inr ⟨h1, hQ _ _ (stay r (.tup h1 q1) h)⟩⟩
      · obtain ⟨v, rfl, a⟩ := rvs1 rv
        obtain ⟨xs, e, q⟩ := h
        obtain ⟨b, vs, rfl, hq, qs⟩ := lst_of r a e
        exact ⟨_, _, rfl, .inl ⟨.inl (.inl hq), fun p hp => hQ _ _ (new_tup r qs q p hp)⟩⟩⟩
  | .list1 => ⟨_, call_list_of, fun {η μ S H m ds vs QD Q} r rv h hQ => by
      unfold biD at h
      split at h <;> first | exact h.elim | skip
      all_goals try (rename_i e1; cases e1)
      · obtain ⟨v, rfl, a⟩ := rvs1 rv
        obtain ⟨xs, e, q⟩ := h
        obtain ⟨b, vs, rfl, hq, qs⟩ := seq_of r a e
        exact ⟨_, _, rfl, hq, fun p hp => hQ _ _ (new_lst r qs q p hp)⟩⟩
  | .all1 => ⟨_, cr_all hc, fun {η μ S H m ds vs QD Q} r rv h hQ => by
      unfold biD at h
      split at h <;> first | exact h.elim | skip
      all_goals try (rename_i e1; cases e1)
      · obtain ⟨v, rfl, a⟩ := rvs1 rv
        obtain ⟨xs, bs, e, eb, q⟩ := h
        obtain ⟨b, vs, rfl, hq, qs⟩ := lst_of r a e
        exact ⟨_, bs, rfl, .inl (.inl (by rw [← bls_of qs eb]; exact hq)), hQ _ _ (stay r (.bl _) q)⟩⟩
  | .any1 => ⟨_, cr_any hc, fun {η μ S H m ds vs QD Q} r rv h hQ => by
      unfold biD at h
      split at h <;> first | exact h.elim | skip
      all_goals try (rename_i e1; cases e1)
      · obtain ⟨v, rfl, a⟩ := rvs1 rv
        obtain ⟨xs, bs, e, eb, q⟩ := h
        obtain ⟨b, vs, rfl, hq, qs⟩ := lst_of r a e
        exact ⟨_, bs, rfl, .inl (.inl (by rw [← bls_of qs eb]; exact hq)), hQ _ _ (stay r (.bl _) q)⟩⟩
  | .sum1 => ⟨_, cr_sum hc, fun {η μ S H m ds vs QD Q} r rv h hQ => by
      unfold biD at h
      split at h <;> first | exact h.elim | skip
      all_goals try (rename_i e1; cases e1)
      · obtain ⟨v, rfl, a⟩ := rvs1 rv
        obtain ⟨xs, bs, e, eb, q⟩ := h
        obtain ⟨b, vs, rfl, hq, qs⟩ := lst_of r a e
        exact ⟨_, bs, rfl, .inl (.inl (by rw [← ints_of qs eb]; exact hq)), hQ _ _ (stay r (.int _) q)⟩⟩
  | .repr1 => ⟨_, call_reprD hG hu, fun {η μ S H m ds vs QD Q} r rv h hQ => by
      unfold biD at h
      split at h <;> first | exact h.elim | skip
      all_goals try (rename_i e1; cases e1)
      · obtain ⟨v, rfl, a⟩ := rvs1 rv
        obtain ⟨p, e, ok, q⟩ := h
        exact ⟨_, p, rfl, dpS_of r a e, ok, hQ _ _ (stay r (.str _) q)⟩⟩
  | .reprE => ⟨_, call_reprE hG hu, fun {η μ S H m ds vs QD Q} r rv h hQ => by
      unfold biD at h
      split at h <;> first | exact h.elim | skip
      all_goals try (rename_i e1; cases e1)
      · obtain ⟨v, rfl, a⟩ := rvs1 rv
        obtain ⟨p, e, ok, q⟩ := h
        exact ⟨_, p, rfl, dpE_of r a e, ok, hQ _ _ (stay r (.str _) q)⟩⟩
  | .min1 => ⟨_, (cr_min hc).or (cr_minT hc hu), fun {η μ S H m ds vs QD Q} r rv h hQ => by
      unfold biD at h
      split at h <;> first | exact h.elim | skip
      all_goals try (rename_i e1; cases e1)
      · obtain ⟨v, rfl, a⟩ := rvs1 rv
        obtain ⟨xs, bs, k, e, eb, hk1, hk2, q⟩ := h
        obtain ⟨b, vs, rfl, hq, qs⟩ := tl_of r a e
        have hl : 0 < bs.length := List.length_pos_of_mem hk1
        rw [ints_of qs eb] at hq
        rcases hq with hq | hq
        · exact .inl ⟨_, bs, rfl, hq, hl, fun k' h1 h2 => by rw [uniq_min hk1 hk2 h1 h2]; exact hQ _ _ (stay r (.int _) q)⟩
        · exact .inr ⟨_, bs, rfl, hq, hl, fun k' h1 h2 => by rw [uniq_min hk1 hk2 h1 h2]; exact hQ _ _ (stay r (.int _) q)⟩⟩
  | .max1 => ⟨_, (cr_max hc).or (cr_maxT hc hu), fun {η μ S H m ds vs QD Q} r rv h hQ => by
      unfold biD at h
      split at h <;> first | exact h.elim | skip
      all_goals try (rename_i e1; cases e1)
      · obtain ⟨v, rfl, a⟩ := rvs1 rv
        obtain ⟨xs, bs, k, e, eb, hk1, hk2, q⟩ := h
        obtain ⟨b, vs, rfl, hq, qs⟩ := tl_of r a e
        have hl : 0 < bs.length := List.length_pos_of_mem hk1
        rw [ints_of qs eb] at hq
        rcases hq with hq | hq
        · exact .inl ⟨_, bs, rfl, hq, hl, fun k' h1 h2 => by rw [uniq_max hk1 hk2 h1 h2]; exact hQ _ _ (stay r (.int _) q)⟩
        · exact .inr ⟨_, bs, rfl, hq, hl, fun k' h1 h2 => by rw [uniq_max hk1 hk2 h1 h2]; exact hQ _ _ (stay r (.int _) q)⟩⟩
  | .min3 => ⟨_, call_min3Nu hc, fun {η μ S H m ds vs QD Q} r rv h hQ => by
      unfold biD at h
      split at h <;> first | exact h.elim | skip
      all_goals try (rename_i e1; cases e1)
      · obtain ⟨v, w, u, rfl, a, b, c⟩ := rvs3 rv; cases a; cases b; cases c
        refine ⟨_, _, _, _, rfl, ?_, hQ _ _ (stay r (.int _) h)⟩
        simp only [nuMin3, nuMin2, nuLt, nuCB, Option.map_some, Option.bind_some, decide_eq_true_eq, gt_iff_lt]
        first
          | rfl
          | (split <;> simp only [nuLt, nuCB, Option.map_some, decide_eq_true_eq] <;> first | rfl | (split <;> rfl))⟩
  | .max3 => ⟨_, call_max3Nu hc, fun {η μ S H m ds vs QD Q} r rv h hQ => by
      unfold biD at h
      split at h <;> first | exact h.elim | skip
      all_goals try (rename_i e1; cases e1)
      · obtain ⟨v, w, u, rfl, a, b, c⟩ := rvs3 rv; cases a; cases b; cases c
        refine ⟨_, _, _, _, rfl, ?_, hQ _ _ (stay r (.int _) h)⟩
        simp only [nuMax3, nuMax2, nuLt, nuCB, Option.map_some, Option.bind_some, decide_eq_true_eq, gt_iff_lt]
        first
          | rfl
          | (split <;> simp only [nuLt, nuCB, Option.map_some, decide_eq_true_eq] <;> first | rfl | (split <;> rfl))⟩
  | .sortT => ⟨_, cr_sortedTI, fun {η μ S H m ds vs QD Q} r rv h hQ => by
      unfold biD at h
      split at h <;> first | exact h.elim | skip
      all_goals try (rename_i e1; cases e1)
      · obtain ⟨v, rfl, a⟩ := rvs1 rv
        obtain ⟨ns, en, q⟩ := h
        cases a with
        | tup hq qs =>
          rw [ints_of qs en] at hq
          exact ⟨_, ns, rfl, hq, fun ns' p h1 h2 hpn => hQ _ _ (new_lst r (ints_rv ns') (q ns' h1 h2) p hpn)⟩⟩
  | .sortL => ⟨_, cr_sortedLT hu, fun {η μ S H m ds vs QD Q} r rv h hQ => by
      unfold biD at h
      split at h <;> first | exact h.elim | skip
      all_goals try (rename_i e1; cases e1)
      · obtain ⟨v, rfl, a⟩ := rvs1 rv
        obtain ⟨rows, e, hne, q⟩ := h
        obtain ⟨b, vs, rfl, hq, qs⟩ := lst_of r a e
        have hlen : rows.length = vs.length := by
          have := qs.length
          rwa [List.length_map] at this
        have e1 : (vs.zip rows).map (·.1) = vs := List.map_fst_zip (by omega)
        have e2 : (vs.zip rows).map (·.2) = rows := List.map_snd_zip (by omega)
        have mem : ∀ b ∈ vs.zip rows, b.2 ∈ rows ∧ RV X.K H η μ (tI b.2) b.1 := fun b hb => by
          obtain ⟨i, hi⟩ := List.getElem?_of_mem hb
          obtain ⟨h1, h2⟩ := List.getElem?_zip_eq_some.mp hi
          obtain ⟨v, hv, rv⟩ := qs.get (show (rows.map tI)[i]? = some (tI b.2) by rw [List.getElem?_map, h2]; rfl)
          rw [h1] at hv
          cases hv
          exact ⟨List.mem_of_getElem? h2, rv⟩
        refine ⟨b, vs.zip rows, rfl, by rw [e1]; exact .inl (.inl hq), fun b hb => ⟨hne _ (mem b hb).1, dp_of (mem b hb).2 (pur_tI _)⟩, fun bs' p hp hpw hpn => ?_⟩
        refine hQ _ _ (new_lst (m := m) r (rvs_pairs fun b hb => (mem b (hp.mem_iff.mp hb)).2) ?_ p hpn)
        have hperm : (bs'.map (·.2)).Perm rows := by
          have := hp.map (·.2)
          rwa [e2] at this
        have := q _ hperm (List.pairwise_map.mpr hpw)
        rwa [List.map_map] at this⟩
  | .intS => ⟨_, call_int_str, fun {η μ S H m ds vs QD Q} r rv h hQ => by
      unfold biD at h
      split at h <;> first | exact h.elim | skip
      all_goals try (rename_i e1; cases e1)
      · obtain ⟨v, rfl, a⟩ := rvs1 rv; cases a
        obtain ⟨n, e, hl, q⟩ := h
        exact ⟨_, n, rfl, e, hl, hQ _ _ (stay r (.int _) q)⟩⟩
  | .str1 => ⟨_, call_str_int, fun {η μ S H m ds vs QD Q} r rv h hQ => by
      unfold biD at h
      split at h <;> first | exact h.elim | skip
      all_goals try (rename_i e1; cases e1)
      · obtain ⟨v, rfl, a⟩ := rvs1 rv
        obtain ⟨i, rfl, hl, q⟩ := h
        cases a
        exact ⟨_, rfl, hl, hQ _ _ (stay r (.str _) q)⟩⟩
  | .listD => ⟨_, call_list_dT hc, fun {η μ S H m ds vs QD Q} r rv h hQ => by
      unfold biD at h
      split at h <;> first | exact h.elim | skip
      all_goals try (rename_i e1; cases e1)
      · obtain ⟨v, rfl, a⟩ := rvs1 rv
        obtain ⟨n, kvs, rfl, e, q⟩ := h
        obtain ⟨b, vs, rfl, hd, ks⟩ := dct_of r a e
        exact ⟨_, _, rfl, hd, fun p bs hpn hk => hQ _ _ (new_lst r (rks_keys ks hk) q p hpn)⟩⟩
  | .sorted1 => ⟨_, cr_sortedI.or ((cr_sortedDT hc).or (cr_sortedDS hc hu)), fun {η μ S H m ds vs QD Q} r rv h hQ => by
      unfold biD at h
      split at h <;> first | exact h.elim | skip
      all_goals try (rename_i e1; cases e1)
      · obtain ⟨v, rfl, a⟩ := rvs1 rv
        rcases h with ⟨xs, ns, e, en, q⟩ | ⟨n, kvs, rfl, e, hp, q⟩ | ⟨n, kvs, rfl, e, hp, q⟩
        · obtain ⟨b, vs, rfl, hq, qs⟩ := lst_of r a e
          rw [ints_of qs en] at hq
          exact .inl ⟨b, ns, rfl, .inl (.inl hq), fun ns' p h1 h2 hpn => hQ _ _ (new_lst r (ints_rv ns') (q ns' h1 h2) p hpn)⟩
        · obtain ⟨b, vs, rfl, hd, ks⟩ := dct_of r a e
          refine .inr (.inl ⟨b, vs, rfl, hd, rks_pair ks hp, fun p ys bs hpn hk hperm => ?_⟩)
          obtain ⟨ds', e1, e2⟩ := rvs_perm (rks_keys ks hk) hperm
          exact hQ _ _ (new_lst r e2 (q ds' e1) p hpn)
        · obtain ⟨b, vs, rfl, hd, ks⟩ := dct_of r a e
          refine .inr (.inr ⟨b, vs, rfl, hd, rks_SI ks hp, fun p ys bs hpn hk hperm => ?_⟩)
          obtain ⟨ds', e1, e2⟩ := rvs_perm (rks_keys ks hk) hperm
          exact hQ _ _ (new_lst r e2 (q ds' e1) p hpn)⟩
end
end DL

/-! enumerate over a tuple -/
namespace DL
open PySem PySem.Spec PyProof.Rows L2
theorem meets_enumerate_newT (l : Addr) (items : Array Value) :
    Meets (Builtin.«enumerate.__new__» ⟨[.type "enumerate", .ref l], []⟩) (fun _ R s => s.heap.IsTuple l items ∧
      R (.ok (.ret (.ref (s.heap.push { cls := .type "tuple_iterator", data := .fields #[.ref l, .int 0 0] }).objs.size)))
        { s with heap := (s.heap.push { cls := .type "tuple_iterator", data := .fields #[.ref l, .int 0 0] }).push { cls := .type "enumerate", data := .fields #[.none, .bool false, .ref s.heap.objs.size, rawInt 0, .none, .none] } }) :=
  .of_wp fun prog w A R s h => by
    obtain ⟨hp, g, d, tk, os⟩ := s; obtain ⟨hl, h⟩ := h
    have hsub := sub_enumerate
    have hL : Heap.IsTuple (Shared.heap ⟨hp, g, d, tk, os⟩) l items := hl
    wp_walk
    refine wpAny_stack_any fun st => wpAny_pure ?_
    split
    · rename_i c _ _ _ _ _
      cases (c == Value.type "enumerate")
      · wp_walk using wpAny_pyIter_tuple hL
        exact ⟨_, rfl, h⟩
      · wp_walk using wpAny_pyIter_tuple hL
        exact ⟨_, rfl, h⟩
    · wp_walk using wpAny_pyIter_tuple hL
      exact ⟨_, rfl, h⟩
section
variable {prog : Program} {w : World} {A : Around} {E : Value → Shared → Prop} {s : Shared}
theorem call_enumerate_tuple {l : Addr} {items : Array Value} {Q : Value → Shared → Prop} (hL : s.heap.IsTuple l items)
    (h : ∀ h', IsEnum h' (s.heap.objs.size + 1) s.heap.objs.size 0 .none → h'.IsTupleIter s.heap.objs.size l 0 → h'.objs.size = s.heap.objs.size + 2 →
      (∀ b o, s.heap.get? b = some o → h'.get? b = some o) → Q (.ref (s.heap.objs.size + 1)) { s with heap := h' }) :
    wpAny (model prog w) A (call (.type "enumerate") [.ref l]) Q E s := by
  refine callType_new F.called_enumerate (by decide) (F.typeCall_enumerate_1 _) (F.newCall_enumerate_1 _) (fun obj => F.args_object_init_2 obj _) F.entry_enumerate_new
    (meets_enumerate_newT l items) ⟨hL, ?_⟩
  have hz : (s.heap.push { cls := .type "tuple_iterator", data := .fields #[.ref l, .int 0 0] }).objs.size = s.heap.objs.size + 1 := Heap.size_push ..
  show _ ∧ _
  rw [hz]
  have he : IsEnum ((s.heap.push { cls := .type "tuple_iterator", data := .fields #[.ref l, .int 0 0] }).push
      { cls := .type "enumerate", data := .fields #[.none, .bool false, .ref s.heap.objs.size, rawInt 0, .none, .none] }) (s.heap.objs.size + 1) s.heap.objs.size 0 .none := by
    have := Heap.get?_push_size (s.heap.push { cls := .type "tuple_iterator", data := .fields #[.ref l, .int 0 0] })
      (o := { cls := .type "enumerate", data := .fields #[.none, .bool false, .ref s.heap.objs.size, rawInt 0, .none, .none] }) rfl
    rw [hz] at this; exact this
  refine ⟨⟨_, he, rfl⟩, h _ he ⟨_, Heap.get?_push_of_some _ (Heap.get?_push_size _ rfl), rfl, rfl⟩ (by rw [Heap.size_push, hz]) fun b o x => Heap.get?_push_of_some _ (Heap.get?_push_of_some _ x)⟩
theorem pyNext_enumT_end {e it l : Addr} {i : Nat} {items : Array Value} {old : Value} {Q : Option Value → Shared → Prop} (hh : A.handled = none)
    (he : IsEnum s.heap e it i old) (hit : s.heap.IsTupleIter it l i) (hl : s.heap.IsTuple l items) (hx : items[i]? = none)
    (hQ : ∀ h', Heap.ExtBut it s.heap h' → Q none { s with heap := h' }) : wpAny (model prog w) A (pyNext (.ref e)) Q E s := by
  have hT : s.TypeIs (.ref e) "enumerate" := ⟨_, he, rfl⟩
  unfold pyNext
  refine wpAny_bind (wpAny_attempt (wpAny_callSpecial?_slot (name := Str.ofString "__next__") hT F.slot_enumerate_next
    (wpAny_call_entry F.slot_enumerate_next hT F.entry_enumerate_next ?_ (F.args_enumerate_next_1 _))))
  show wpAny _ _ (field (.ref e) 2 >>= _) _ _ _
  refine wpAny_bind (wpAny_field he rfl (x := .ref it) rfl ?_)
  refine wpAny_bind (RZ.nextOf_tuple_end hh hit hl hx fun h' x he' hx' => ?_)
  obtain ⟨o, ho, hc⟩ := hx'
  refine wpAny_bind (wpAny_isInstance (T := "StopIteration") (b := true) ⟨o, ho, hc⟩ isSubtype_stop ?_)
  exact wpAny_pure (hQ _ he')
end
/-- the tuple at a, each item in a new pair -/
def IteT (K : PySem.W.Frag) (a : Addr) : It :=
  ⟨fun i H => ∃ (xs : List V) (x : V), SqT K H a xs ∧ xs[i]? = some x, fun i H v H' => ∃ T x, v = .ref T ∧ H T = none ∧ H' = upd H T (.tup [.int (i : Nat), x]) ∧ ∀ xs, SqT K H a xs → xs[i]? = some x, fun i H => ∃ xs : List V, SqT K H a xs ∧ xs.length ≤ i⟩
theorem turn_enumT {P : Program} {w : World} {K : PySem.W.Frag} {elts : List Expr} {kk : Nat} {tpos : Pos} (a e it : Addr) (hae : a ≠ e) (hai : a ≠ it) :
    Turn P w K (.Tuple elts kk tpos) (IteT K a) [e, it] e (fun i h => (∃ old, IsEnum h e it ((i : Nat) : Int) old) ∧ h.IsTupleIter it a i ∧ e ≠ it) where
  mem := by simp
  obj := fun i h st b hb => by
    obtain ⟨⟨old, he⟩, ⟨o, ho, hc, hd⟩, _⟩ := st
    have e' : b = e ∨ b = it := by simpa using hb
    rcases e' with z | z
    · rw [z]; exact ⟨_, he, fun v q => nomatch q⟩
    · rw [z]; exact ⟨o, ho, fun v q => by rw [hd] at q; cases q⟩
  keep := fun i h h' st k => let ⟨⟨old, he⟩, hi, hne⟩ := st; ⟨⟨old, k e (by simp) _ he⟩, hi.at fun o q => k it (by simp) o q, hne⟩
  item := by
    intro X hP hw hK hc i pins s σ H E I hf st hg
    subst hP hw hK
    obtain ⟨⟨old, he⟩, hit, hne⟩ := st
    obtain ⟨xs, x, hq, hx⟩ := hg
    obtain ⟨its, rv, p, hz⟩ := I.tuple hq
    obtain ⟨u, hu, ru⟩ := rv.get hx
    have hul : i < its.toArray.size := by simpa using (List.getElem?_eq_some_iff.mp hu).1
    have hel : e < s.heap.objs.size := Heap.lt_size he
    have hil : it < s.heap.objs.size := by obtain ⟨_, q, _⟩ := hit; exact Heap.lt_size q
    refine wpAny_pyNext_enum_itemD (Draws.tuple (A := X.A.in1) (show X.A.in1.handled = none from I.ok.hd hc) it a hai its.toArray) he ⟨hit, p⟩ hul hne (by simp [hne, Ne.symm hae]) fun y h' tk hy ho hst hT hsz hk => ?_
    have hyu : y = u := Option.some.inj (hy.symm.trans (by simpa using hu))
    subst hyu
    refine ⟨_, rfl, wpAny_letOwnedTupleGo_enum (s := { s with heap := h', toks := tk + 1 }) ho fun h'' he' sb => ?_⟩
    have hT2 : h''.get? s.heap.objs.size = some { cls := .type "tuple", data := .seq #[.int i tk, y] } := (sb.2 _ (Nat.ne_of_gt hel)).trans hT
    have new : ObjOk X.prog X.w (upd H s.heap.objs.size (.tup [.int (i : Nat), x])) h'' s.heap.objs.size (.tup [.int (i : Nat), x]) :=
      ⟨by show 2 ≤ sizeLine; decide, [.int i tk, y], .cons ⟨_, rfl⟩ (.cons ru .nil), ⟨_, hT2, rfl, _, rfl⟩⟩
    have I1 : Inv X pins σ (upd H s.heap.objs.size (.tup [.int (i : Nat), x])) { s with heap := h'', toks := tk + 1 } :=
      I.turnedNew (ch := [e, it]) (fun b ob hb q => (sb.2 b (fun z => hb (by simp [z]))).trans (hk b ob (fun z => hb (by simp [z])) (fun z => hb (by simp [z])) q)) hf (Nat.le_refl _) new
    refine ⟨.ref s.heap.objs.size, _, I1, rfl, ⟨_, x, rfl, I.hok.fresh (Nat.le_refl _), rfl, fun ys hy => by rw [I.tuple_inj hy hq]; exact hx⟩, ⟨⟨y, ?_⟩, hst.1.at fun o q => (sb.2 it (Ne.symm hne)).trans q, hne⟩, fun b hb => ?_⟩
    · have e1 : ((i + 1 : Nat) : Int) = (i : Int) + 1 := by omega
      rw [e1]; exact he'
    · have hb' : b < s.heap.objs.size := by
        have e' : b = e ∨ b = it := by simpa using hb
        rcases e' with z | z
        · rw [z]; exact hel
        · rw [z]; exact hil
      rw [upd_ne (Nat.ne_of_lt hb')]
      exact (hf b hb).1
  done := by
    intro X hP hw hK hc i pins s σ H E I hf st hg
    subst hP hw hK
    obtain ⟨⟨old, he⟩, hit, hne⟩ := st
    obtain ⟨xs, hq, hx⟩ := hg
    obtain ⟨its, rv, p, hz⟩ := I.tuple hq
    obtain ⟨f0, f1, f2, f3, f4, f5⟩ := hf it (by simp)
    have hl := rv.length
    exact pyNext_enumT_end (I.ok.hd hc) he hit (show s.heap.IsTuple a its.toArray from p) (by simp; omega) fun h' eb => ⟨rfl, I.turned (t' := s.toks) (fun b o hb q => eb b o hb q) f0 f1 f3 f4 f5⟩
  self := fun A i s Q E st h => let ⟨⟨_, he⟩, _⟩ := st; wpAny_pyIter_enum he h
def iEnumT (K : PySem.W.Frag) (ta : TA) : TI := fun σ H R => ta σ H fun vs H1 => ∃ a xs, vs = [.ref a] ∧ ((SqL K H1 a xs ∧ R (Ite K a) H1) ∨ (SqT K H1 a xs ∧ R (IteT K a) H1))
theorem pi_enumA {X : Cx} {e : Expr} {ta : TA} {p pos tpos : Pos} {elts : List Expr} {kk : Nat} (hg : Gl X "enumerate") (hm : X.mg "enumerate" = none) (ha : PA X [e] ta) (hs : starEach [e] X.env = [(false, eval e X.env)] := by rfl) :
    PI X (.Tuple elts kk tpos) (.Call (.Name "enumerate" p) [e] [] pos) (iEnumT X.K ta) := by
  refine ⟨fun pins s σ H R I h => ?_⟩
  refine Call_ (ld_blt I hg hm boot_enumerate (PyProof.Rows.callWith_type1 (thn (ha.run pos pins s σ H _ I h) fun us s1 ⟨vs, H1, I1, r1, q1⟩ => ?_) hs rfl))
  obtain ⟨a, xs, ex, q⟩ := q1
  subst ex
  cases r1 with
  | cons r rr =>
    cases rr
    cases r
    have fr : ∀ b ∈ [s1.heap.objs.size + 1, s1.heap.objs.size], FpOk X pins H1 b := fun b hb => by
      have e' : b = s1.heap.objs.size + 1 ∨ b = s1.heap.objs.size := by simpa using hb
      have hle : s1.heap.objs.size ≤ b := by
        rcases e' with z | z
        · rw [z]; exact Nat.le_add_right _ _
        · rw [z]; exact Nat.le_refl _
      exact I1.fpOk hle (I1.hok.fresh hle)
    rcases q with ⟨hq, q⟩ | ⟨hq, q⟩
    · obtain ⟨its, rv, p', hz⟩ := I1.list hq
      refine call_enumerate_list p'.isList fun h' he hit hsz hk => wpAny_pyIter_enum he ?_
      have I2 : Inv X pins σ H1 { s1 with heap := h' } := I1.kept (t' := s1.toks) hk
      exact ⟨s1.heap.objs.size + 1, [s1.heap.objs.size + 1, s1.heap.objs.size], _, _, H1, rfl, I2, turn_enum a (s1.heap.objs.size + 1) s1.heap.objs.size, ⟨⟨.none, he⟩, hit, Nat.succ_ne_self _⟩, fr, q⟩
    · obtain ⟨its, rv, p', hz⟩ := I1.tuple hq
      obtain ⟨o1, ho1, _⟩ := id p'
      have hlt := Heap.lt_size ho1
      refine call_enumerate_tuple (show s1.heap.IsTuple a its.toArray from p') fun h' he hit hsz hk => wpAny_pyIter_enum he ?_
      have I2 : Inv X pins σ H1 { s1 with heap := h' } := I1.kept (t' := s1.toks) hk
      exact ⟨s1.heap.objs.size + 1, [s1.heap.objs.size + 1, s1.heap.objs.size], _, _, H1, rfl, I2, turn_enumT a (s1.heap.objs.size + 1) s1.heap.objs.size (Nat.ne_of_lt (Nat.lt_succ_of_lt hlt)) (Nat.ne_of_lt hlt), ⟨⟨.none, he⟩, hit, Nat.succ_ne_self _⟩, fr, q⟩
/-! ### zip of a list and a tuple, in any mix -/
/-- a tuple (true) or a list (false) -/
def SqA (K : PySem.W.Frag) (k : Bool) (H : Hp) (a : Addr) (xs : List V) : Prop := if k = true then SqT K H a xs else SqL K H a xs
def IsSA (k : Bool) (h : Heap) (a : Addr) (its : Array Value) : Prop := if k = true then h.IsTuple a its else h.IsList a its
def IsIA (k : Bool) (h : Heap) (it a : Addr) (i : Nat) : Prop := if k = true then h.IsTupleIter it a i else h.IsListIter it a i
theorem IsIA.at {k : Bool} {h h' : Heap} {it a : Addr} {i : Nat} (x : IsIA k h it a i) (e : ∀ o, h.get? it = some o → h'.get? it = some o) : IsIA k h' it a i := by
  cases k with
  | true => exact Heap.IsTupleIter.at (show h.IsTupleIter it a i from x) e
  | false => exact Heap.IsListIter.at (show h.IsListIter it a i from x) e
theorem IsIA.obj {k : Bool} {h : Heap} {it a : Addr} {i : Nat} (x : IsIA k h it a i) : ∃ o, h.get? it = some o ∧ ∀ v, o.data ≠ .cell v := by
  cases k with
  | true => obtain ⟨o, e, _, d⟩ := (show h.IsTupleIter it a i from x); exact ⟨o, e, fun v q => by rw [d] at q; cases q⟩
  | false => obtain ⟨o, e, _, d⟩ := (show h.IsListIter it a i from x); exact ⟨o, e, fun v q => by rw [d] at q; cases q⟩
theorem draws_A {prog : Program} {w : World} {A : Around} (hh : A.handled = none) (k : Bool) (it t : Addr) (hne : t ≠ it) (items : Array Value) :
    Draws prog w A it [it, t] items.size (fun i v => items[i]? = some v) (fun i h => IsIA k h it t i ∧ IsSA k h t items) := by
  cases k with
  | true => exact Draws.tuple hh it t hne items
  | false => exact Draws.list hh it t hne items
theorem inv_A {X : Cx} {pins : List (Addr × Obj)} {σ : L2.St} {H : Hp} {s : Shared} {k : Bool} {a : Addr} {xs : List V} (I : Inv X pins σ H s) (h : SqA X.K k H a xs) : ∃ its : List Value, Vals xs its ∧ IsSA k s.heap a its.toArray := by
  cases k with
  | true => obtain ⟨its, rv, p, _⟩ := I.tuple (show SqT X.K H a xs from h); exact ⟨its, rv, p⟩
  | false => obtain ⟨its, rv, p, _⟩ := I.list (show SqL X.K H a xs from h); exact ⟨its, rv, p.isList⟩
theorem inj_A {X : Cx} {pins : List (Addr × Obj)} {σ : L2.St} {H : Hp} {s : Shared} {k : Bool} {a : Addr} {xs ys : List V} (I : Inv X pins σ H s) (h : SqA X.K k H a xs) (h' : SqA X.K k H a ys) : xs = ys := by
  cases k with
  | true => exact I.tuple_inj (show SqT X.K H a xs from h) h'
  | false => exact I.list_inj (show SqL X.K H a xs from h) h'
def ItzM (K : PySem.W.Frag) (k1 k2 : Bool) (a b : Addr) : It :=
  ⟨fun i H => ∃ (xs ys : List V) (x y : V), SqA K k1 H a xs ∧ SqA K k2 H b ys ∧ xs[i]? = some x ∧ ys[i]? = some y,
    fun i H v H' => ∃ T x y, v = .ref T ∧ H T = none ∧ H' = upd H T (.tup [x, y]) ∧ (∀ xs, SqA K k1 H a xs → xs[i]? = some x) ∧ ∀ ys, SqA K k2 H b ys → ys[i]? = some y,
    fun i H => ∃ xs ys : List V, SqA K k1 H a xs ∧ SqA K k2 H b ys ∧ i ≤ xs.length ∧ i ≤ ys.length ∧ (i = xs.length ∨ i = ys.length)⟩
theorem sep_of {a b z TI TO i1 i2 : Addr} (D : ZipApart z TI TO i1 i2 a b) : ZipSep2 z TI TO i1 i2 [i1, a] [i2, b] where
  TIz := D.TIz
  TOz := D.TOz
  TITO := D.TITO
  TIi1 := D.TIi1
  mem1 := by simp
  zf1 := by simp [Ne.symm D.i1z, Ne.symm D.l1z]
  Tf1 := by simp [D.TOi1, Ne.symm D.l1TO]
  TIi2 := D.TIi2
  mem2 := by simp
  zf2 := by simp [Ne.symm D.i2z, Ne.symm D.l2z]
  Tf2 := by simp [D.TOi2, Ne.symm D.l2TO]
  sep1_2 := by simp [D.i12, Ne.symm D.l2i1]
  sep2_1 := by simp [Ne.symm D.i12, Ne.symm D.l1i2]
theorem turn_zipM {P : Program} {w : World} {K : PySem.W.Frag} {elts : List Expr} {kk : Nat} {tpos : Pos} {k1 k2 : Bool} {a b z TI TO i1 i2 : Addr} (D : ZipApart z TI TO i1 i2 a b) :
    Turn P w K (.Tuple elts kk tpos) (ItzM K k1 k2 a b) [z, TI, TO, i1, i2] z (fun i h => IsZip h z TI TO .none ∧ IsPair h TI (.ref i1) (.ref i2) ∧ (∃ x y, IsPair h TO x y) ∧ IsIA k1 h i1 a i ∧ IsIA k2 h i2 b i) where
  mem := by simp
  obj := fun i h st c hc => by
    obtain ⟨hz, hTI, ⟨x, y, hTO⟩, h1, h2⟩ := st
    have e' : c = z ∨ c = TI ∨ c = TO ∨ c = i1 ∨ c = i2 := by simpa using hc
    rcases e' with q | q | q | q | q
    · rw [q]; exact ⟨_, hz, fun v q => nomatch q⟩
    · rw [q]; exact ⟨_, hTI, fun v q => nomatch q⟩
    · rw [q]; exact ⟨_, hTO, fun v q => nomatch q⟩
    · rw [q]; exact h1.obj
    · rw [q]; exact h2.obj
  keep := fun i h h' st k => by
    obtain ⟨hz, hTI, ⟨x, y, hTO⟩, h1, h2⟩ := st
    exact ⟨k z (by simp) _ hz, k TI (by simp) _ hTI, ⟨x, y, k TO (by simp) _ hTO⟩, h1.at fun o q => k i1 (by simp) o q, h2.at fun o q => k i2 (by simp) o q⟩
  item := by
    intro X hP hw hK hc i pins s σ H E I hf st hg
    subst hP hw hK
    obtain ⟨hz, hTI, ⟨x0, y0, hTO⟩, h1, h2⟩ := st
    obtain ⟨xs, ys, x, y, hqx, hqy, hx, hy⟩ := hg
    obtain ⟨its, rv, p⟩ := inv_A I hqx
    obtain ⟨its2, rv2, p2⟩ := inv_A I hqy
    obtain ⟨u, hu, ru⟩ := rv.get hx
    obtain ⟨u2, hu2, ru2⟩ := rv2.get hy
    have hl1 : i < its.toArray.size := by simpa using (List.getElem?_eq_some_iff.mp hu).1
    have hl2 : i < its2.toArray.size := by simpa using (List.getElem?_eq_some_iff.mp hu2).1
    have hh : X.A.in1.handled = none := I.ok.hd hc
    have hzl : z < s.heap.objs.size := Heap.lt_size hz
    refine wpAny_pyNext_zipD2_item (sep_of D) (draws_A hh k1 i1 a D.l1i1 its.toArray) (draws_A hh k2 i2 b D.l2i2 its2.toArray) hz hTI hTO ⟨h1, p⟩ ⟨h2, p2⟩ hl1 hl2 fun v1 v2 h' tk e1 e2 z' TO' s1' s2' hT hsz hk => ?_
    have q1 : v1 = u := Option.some.inj (e1.symm.trans (by simpa using hu))
    have q2 : v2 = u2 := Option.some.inj (e2.symm.trans (by simpa using hu2))
    subst q1 q2
    refine ⟨_, rfl, wpAny_letOwnedTupleGo_zip (s := { s with heap := h', toks := tk }) z' fun h'' z'' sb => ?_⟩
    have hT2 : h''.get? s.heap.objs.size = some { cls := .type "tuple", data := .seq #[v1, v2] } := (sb.2 _ (Nat.ne_of_gt hzl)).trans hT
    have new : ObjOk X.prog X.w (upd H s.heap.objs.size (.tup [x, y])) h'' s.heap.objs.size (.tup [x, y]) :=
      ⟨by show 2 ≤ sizeLine; decide, [v1, v2], .cons ru (.cons ru2 .nil), ⟨_, hT2, rfl, _, rfl⟩⟩
    have I1 : Inv X pins σ (upd H s.heap.objs.size (.tup [x, y])) { s with heap := h'', toks := tk } :=
      I.turnedNew (t' := tk) (ch := [z, TI, TO, i1, i2]) (fun c o hb q => (sb.2 c (fun q' => hb (by simp [q']))).trans (hk c o (fun q' => hb (by simp [q'])) (fun q' => hb (by simp [q'])) (fun q' => hb (by simp [q'])) (fun q' => hb (by simp [q'])) q)) hf (Nat.le_refl _) new
    refine ⟨.ref s.heap.objs.size, _, I1, rfl, ⟨_, x, y, rfl, I.hok.fresh (Nat.le_refl _), rfl, fun l hl => by rw [inj_A I hl hqx]; exact hx, fun l hl => by rw [inj_A I hl hqy]; exact hy⟩, ⟨z'', ?_, ⟨v1, v2, ?_⟩, ?_, ?_⟩, fun c hcm => ?_⟩
    · exact (sb.2 _ D.TIz).trans (hk _ _ D.TIz D.TITO D.TIi1 D.TIi2 hTI)
    · exact (sb.2 _ D.TOz).trans TO'
    · exact s1'.1.at fun o q => (sb.2 _ D.i1z).trans q
    · exact s2'.1.at fun o q => (sb.2 _ D.i2z).trans q
    · have hlt : c < s.heap.objs.size := by
        have e' : c = z ∨ c = TI ∨ c = TO ∨ c = i1 ∨ c = i2 := by simpa using hcm
        rcases e' with q | q | q | q | q
        · rw [q]; exact hzl
        · rw [q]; exact Heap.lt_size hTI
        · rw [q]; exact Heap.lt_size hTO
        · rw [q]; obtain ⟨_, e1, _⟩ := h1.obj; exact Heap.lt_size e1
        · rw [q]; obtain ⟨_, e2, _⟩ := h2.obj; exact Heap.lt_size e2
      rw [upd_ne (Nat.ne_of_lt hlt)]
      exact (hf c hcm).1
  done := by
    intro X hP hw hK hc i pins s σ H E I hf st hg
    subst hP hw hK
    obtain ⟨hz, hTI, ⟨x0, y0, hTO⟩, h1, h2⟩ := st
    obtain ⟨xs, ys, hqx, hqy, hl1, hl2, hend⟩ := hg
    obtain ⟨its, rv, p⟩ := inv_A I hqx
    obtain ⟨its2, rv2, p2⟩ := inv_A I hqy
    have n1 := rv.length
    have n2 := rv2.length
    have hh : X.A.in1.handled = none := I.ok.hd hc
    exact wpAny_pyNext_zipD2_end (sep_of D) (draws_A hh k1 i1 a D.l1i1 its.toArray) (draws_A hh k2 i2 b D.l2i2 its2.toArray) hz hTI hTO ⟨h1, p⟩ ⟨h2, p2⟩ (by simp; omega) (by simp; omega) (by simp; omega) fun h' tk hk => ⟨rfl, I.turnedL (t' := tk) (ch := [z, TI, TO, i1, i2]) (fun c o hb q =>
      hk c o (fun q' => hb (by simp [q'])) (fun q' => hb (by simp [q'])) (fun q' => hb (by simp [q'])) (fun q' => hb (by simp [q'])) q) hf⟩
  self := fun A i s Q E st h => wpAny_pyIter_zip st.1 h
/-! the call of zip over any two -/
def itC (k : Bool) : String := if k then "tuple_iterator" else "list_iterator"
abbrev zmH1 (k1 : Bool) (h : Heap) (l1 : Addr) : Heap := h.push { cls := .type (itC k1), data := .fields #[.ref l1, .int 0 0] }
abbrev zmH2 (k1 k2 : Bool) (h : Heap) (l1 l2 : Addr) : Heap := (zmH1 k1 h l1).push { cls := .type (itC k2), data := .fields #[.ref l2, .int 0 0] }
abbrev zmH3 (k1 k2 : Bool) (h : Heap) (l1 l2 : Addr) : Heap := (zmH2 k1 k2 h l1 l2).push { cls := .type "tuple", data := .seq #[.ref h.objs.size, .ref (zmH1 k1 h l1).objs.size] }
abbrev zmH4 (k1 k2 : Bool) (h : Heap) (l1 l2 : Addr) : Heap := (zmH3 k1 k2 h l1 l2).push { cls := .type "tuple", data := .seq #[.none, .none] }
abbrev zmH5 (k1 k2 : Bool) (h : Heap) (l1 l2 : Addr) : Heap := (zmH4 k1 k2 h l1 l2).push { cls := .type "zip", data := .fields #[.none, .bool false, .bool false, .ref (zmH2 k1 k2 h l1 l2).objs.size, .ref (zmH3 k1 k2 h l1 l2).objs.size] }
abbrev zmTLH1 (h : Heap) (l1 : Addr) : Heap := h.push { cls := .type "tuple_iterator", data := .fields #[.ref l1, .int 0 0] }
abbrev zmTLH2 (h : Heap) (l1 l2 : Addr) : Heap := (zmTLH1 h l1).push { cls := .type "list_iterator", data := .fields #[.ref l2, .int 0 0] }
abbrev zmTLH3 (h : Heap) (l1 l2 : Addr) : Heap := (zmTLH2 h l1 l2).push { cls := .type "tuple", data := .seq #[.ref h.objs.size, .ref (zmTLH1 h l1).objs.size] }
abbrev zmTLH4 (h : Heap) (l1 l2 : Addr) : Heap := (zmTLH3 h l1 l2).push { cls := .type "tuple", data := .seq #[.none, .none] }
abbrev zmTLH5 (h : Heap) (l1 l2 : Addr) : Heap := (zmTLH4 h l1 l2).push { cls := .type "zip", data := .fields #[.none, .bool false, .bool false, .ref (zmTLH2 h l1 l2).objs.size, .ref (zmTLH3 h l1 l2).objs.size] }
abbrev zmLTH1 (h : Heap) (l1 : Addr) : Heap := h.push { cls := .type "list_iterator", data := .fields #[.ref l1, .int 0 0] }
abbrev zmLTH2 (h : Heap) (l1 l2 : Addr) : Heap := (zmLTH1 h l1).push { cls := .type "tuple_iterator", data := .fields #[.ref l2, .int 0 0] }
abbrev zmLTH3 (h : Heap) (l1 l2 : Addr) : Heap := (zmLTH2 h l1 l2).push { cls := .type "tuple", data := .seq #[.ref h.objs.size, .ref (zmLTH1 h l1).objs.size] }
abbrev zmLTH4 (h : Heap) (l1 l2 : Addr) : Heap := (zmLTH3 h l1 l2).push { cls := .type "tuple", data := .seq #[.none, .none] }
abbrev zmLTH5 (h : Heap) (l1 l2 : Addr) : Heap := (zmLTH4 h l1 l2).push { cls := .type "zip", data := .fields #[.none, .bool false, .bool false, .ref (zmLTH2 h l1 l2).objs.size, .ref (zmLTH3 h l1 l2).objs.size] }
set_option maxHeartbeats 1000000 in
theorem meets_zipTL_new (l1 l2 : Addr) (xs ys : Array Value) :
    Meets (Builtin.«zip.__new__» ⟨[.type "zip", .ref l1, .ref l2], []⟩) (fun _ R s => s.heap.IsTuple l1 xs ∧ s.heap.IsList l2 ys ∧
      R (.ok (.ret (.ref (zmTLH4 s.heap l1 l2).objs.size))) { s with heap := zmTLH5 s.heap l1 l2 }) :=
  .of_wp fun prog w A R s h => by
    obtain ⟨hp, g, d, tk, os⟩ := s; obtain ⟨hl1, hl2, h⟩ := h
    have hsub := sub_zip
    have hL1 : Heap.IsTuple (Shared.heap ⟨hp, g, d, tk, os⟩) l1 xs := hl1
    have hL2 : Heap.IsList (Shared.heap ⟨hp.push { cls := .type "tuple_iterator", data := .fields #[.ref l1, .int 0 0] }, g, d, tk, os⟩) l2 ys := Heap.IsList.push hl2 _
    wp_walk using wpAny_pyIter_tuple hL1, wpAny_pyIter_list hL2
    exact ⟨_, rfl, h⟩
set_option maxHeartbeats 1000000 in
theorem meets_zipLT_new (l1 l2 : Addr) (xs ys : Array Value) :
    Meets (Builtin.«zip.__new__» ⟨[.type "zip", .ref l1, .ref l2], []⟩) (fun _ R s => s.heap.IsList l1 xs ∧ s.heap.IsTuple l2 ys ∧
      R (.ok (.ret (.ref (zmLTH4 s.heap l1 l2).objs.size))) { s with heap := zmLTH5 s.heap l1 l2 }) :=
  .of_wp fun prog w A R s h => by
    obtain ⟨hp, g, d, tk, os⟩ := s; obtain ⟨hl1, hl2, h⟩ := h
    have hsub := sub_zip
    have hL1 : Heap.IsList (Shared.heap ⟨hp, g, d, tk, os⟩) l1 xs := hl1
    have hL2 : Heap.IsTuple (Shared.heap ⟨hp.push { cls := .type "list_iterator", data := .fields #[.ref l1, .int 0 0] }, g, d, tk, os⟩) l2 ys := Heap.IsTuple.push hl2 _
    wp_walk using wpAny_pyIter_list hL1, wpAny_pyIter_tuple hL2
    exact ⟨_, rfl, h⟩
theorem meets_zipM_new (k1 k2 : Bool) (l1 l2 : Addr) (xs ys : Array Value) :
    Meets (Builtin.«zip.__new__» ⟨[.type "zip", .ref l1, .ref l2], []⟩) (fun _ R s => IsSA k1 s.heap l1 xs ∧ IsSA k2 s.heap l2 ys ∧
      R (.ok (.ret (.ref (zmH4 k1 k2 s.heap l1 l2).objs.size))) { s with heap := zmH5 k1 k2 s.heap l1 l2 }) := by
  cases k1 <;> cases k2
  · exact meets_zip_new l1 l2 xs ys
  · exact meets_zipLT_new l1 l2 xs ys
  · exact meets_zipTL_new l1 l2 xs ys
  · exact RZ.meets_zipT_new l1 l2 xs ys
theorem call_zipM {prog : Program} {w : World} {A : Around} {E : Value → Shared → Prop} {s : Shared} {k1 k2 : Bool} {l1 l2 : Addr} {xs ys : Array Value} {Q : Value → Shared → Prop} (hl1 : IsSA k1 s.heap l1 xs) (hl2 : IsSA k2 s.heap l2 ys)
    (h : ∀ h', IsZip h' (s.heap.objs.size + 4) (s.heap.objs.size + 2) (s.heap.objs.size + 3) .none → IsPair h' (s.heap.objs.size + 2) (.ref s.heap.objs.size) (.ref (s.heap.objs.size + 1)) →
      IsPair h' (s.heap.objs.size + 3) .none .none → IsIA k1 h' s.heap.objs.size l1 0 → IsIA k2 h' (s.heap.objs.size + 1) l2 0 → h'.objs.size = s.heap.objs.size + 5 →
      (∀ c o, s.heap.get? c = some o → h'.get? c = some o) → Q (.ref (s.heap.objs.size + 4)) { s with heap := h' }) :
    wpAny (model prog w) A (call (.type "zip") [.ref l1, .ref l2]) Q E s := by
  refine callType_new F.called_zip (by decide) (F.typeCall_zip_2 _ _) (F.newCall_zip_2 _ _) (fun obj => F.args_object_init_3 obj _ _) F.entry_zip_new
    (meets_zipM_new k1 k2 l1 l2 xs ys) ⟨hl1, hl2, ?_⟩
  have z1 : (zmH1 k1 s.heap l1).objs.size = s.heap.objs.size + 1 := Heap.size_push ..
  have z2 : (zmH2 k1 k2 s.heap l1 l2).objs.size = s.heap.objs.size + 2 := by rw [Heap.size_push, z1]
  have z3 : (zmH3 k1 k2 s.heap l1 l2).objs.size = s.heap.objs.size + 3 := by rw [Heap.size_push, z2]
  have z4 : (zmH4 k1 k2 s.heap l1 l2).objs.size = s.heap.objs.size + 4 := by rw [Heap.size_push, z3]
  have z5 : (zmH5 k1 k2 s.heap l1 l2).objs.size = s.heap.objs.size + 5 := by rw [Heap.size_push, z4]
  have g5 : (zmH5 k1 k2 s.heap l1 l2).get? (zmH4 k1 k2 s.heap l1 l2).objs.size = some _ := Heap.get?_push_size _ rfl
  have g4 : (zmH5 k1 k2 s.heap l1 l2).get? (zmH3 k1 k2 s.heap l1 l2).objs.size = some _ := Heap.get?_push_of_some _ (Heap.get?_push_size _ rfl)
  have g3 : (zmH5 k1 k2 s.heap l1 l2).get? (zmH2 k1 k2 s.heap l1 l2).objs.size = some _ := Heap.get?_push_of_some _ (Heap.get?_push_of_some _ (Heap.get?_push_size _ rfl))
  have g2 : (zmH5 k1 k2 s.heap l1 l2).get? (zmH1 k1 s.heap l1).objs.size = some _ := Heap.get?_push_of_some _ (Heap.get?_push_of_some _ (Heap.get?_push_of_some _ (Heap.get?_push_size _ rfl)))
  have g1 : (zmH5 k1 k2 s.heap l1 l2).get? s.heap.objs.size = some _ := Heap.get?_push_of_some _ (Heap.get?_push_of_some _ (Heap.get?_push_of_some _ (Heap.get?_push_of_some _ (Heap.get?_push_size _ rfl))))
  show _ ∧ _
  rw [z2, z3, z4] at g5
  rw [z1, z2] at g3
  rw [z3] at g4
  rw [z1] at g2
  rw [z4]
  refine ⟨⟨_, g5, rfl⟩, h _ g5 g3 g4 ?_ ?_ z5 fun c o x =>
    Heap.get?_push_of_some _ (Heap.get?_push_of_some _ (Heap.get?_push_of_some _ (Heap.get?_push_of_some _ (Heap.get?_push_of_some _ x))))⟩
  · cases k1
    · exact ⟨_, g1, rfl, rfl⟩
    · exact ⟨_, g1, rfl, rfl⟩
  · cases k2
    · exact ⟨_, g2, rfl, rfl⟩
    · exact ⟨_, g2, rfl, rfl⟩
theorem IsSA.lt {k : Bool} {h : Heap} {a : Addr} {its : Array Value} (x : IsSA k h a its) : a < h.objs.size := by
  cases k with
  | true => obtain ⟨o, e, _⟩ := (show h.IsTuple a its from x); exact Heap.lt_size e
  | false => obtain ⟨o, e, _⟩ := (show h.IsList a its from x); exact Heap.lt_size e
def iZipM (K : PySem.W.Frag) (ta : TA) : TI := fun σ H R => ta σ H fun vs H1 => ∃ a b k1 k2 xs ys, vs = [.ref a, .ref b] ∧ SqA K k1 H1 a xs ∧ SqA K k2 H1 b ys ∧ R (ItzM K k1 k2 a b) H1
theorem pi_zipM {X : Cx} {e e2 : Expr} {ta : TA} {p pos tpos : Pos} {elts : List Expr} {kk : Nat} (hg : Gl X "zip") (hm : X.mg "zip" = none) (ha : PA X [e, e2] ta)
    (hs : starEach [e, e2] X.env = (false, eval e X.env) :: starEach [e2] X.env := by rfl) (hpl : (backTo pos (starEach [e2] X.env)).any (·.1) = false := by rfl) :
    PI X (.Tuple elts kk tpos) (.Call (.Name "zip" p) [e, e2] [] pos) (iZipM X.K ta) := by
  refine ⟨fun pins s σ H R I h => ?_⟩
  refine Call_ (ld_blt I hg hm PyProof.Rows.boot_zip (PyProof.Rows.callWith_type1 (thn (ha.run pos pins s σ H _ I h) fun us s1 ⟨vs, H1, I1, r1, q1⟩ => ?_) hs hpl))
  obtain ⟨a, b, k1, k2, xs, ys, ex, hqx, hqy, q⟩ := q1
  subst ex
  cases r1 with
  | cons r rr =>
    cases rr with
    | cons r' rr =>
      cases rr
      cases r
      cases r'
      have fresh5 : ∀ c, c ∈ [s1.heap.objs.size + 4, s1.heap.objs.size + 2, s1.heap.objs.size + 3, s1.heap.objs.size, s1.heap.objs.size + 1] → FpOk X pins H1 c := fun c hcm => by
        have e' : c = s1.heap.objs.size + 4 ∨ c = s1.heap.objs.size + 2 ∨ c = s1.heap.objs.size + 3 ∨ c = s1.heap.objs.size ∨ c = s1.heap.objs.size + 1 := by simpa using hcm
        have hle : s1.heap.objs.size ≤ c := by
          rcases e' with z | z | z | z | z
          · rw [z]; exact Nat.le_add_right _ _
          · rw [z]; exact Nat.le_add_right _ _
          · rw [z]; exact Nat.le_add_right _ _
          · rw [z]; exact Nat.le_refl _
          · rw [z]; exact Nat.le_add_right _ _
        exact I1.fpOk hle (I1.hok.fresh hle)
      obtain ⟨its, rv, p1⟩ := inv_A I1 hqx
      obtain ⟨its2, rv2, p2⟩ := inv_A I1 hqy
      refine call_zipM p1 p2 fun h' hz hTI hTO h1 h2 hsz hk => wpAny_pyIter_zip hz ?_
      have I2 : Inv X pins σ H1 { s1 with heap := h' } := I1.kept (t' := s1.toks) hk
      exact ⟨s1.heap.objs.size + 4, [s1.heap.objs.size + 4, s1.heap.objs.size + 2, s1.heap.objs.size + 3, s1.heap.objs.size, s1.heap.objs.size + 1], _, _, H1, rfl, I2, turn_zipM (PySem.W.ktu_apart s1.heap.objs.size a b p1.lt p2.lt), ⟨hz, hTI, ⟨_, _, hTO⟩, h1, h2⟩, fresh5, q⟩
end DL

set_option maxHeartbeats 4000000
/-! zip of three, each a list or a tuple -/
namespace DL
open PySem PySem.Spec PyProof.Rows L2
def ItzM3 (K : PySem.W.Frag) (k1 k2 k3 : Bool) (a b c : Addr) : It :=
  ⟨fun i H => ∃ (xs ys zs : List V) (x y z : V), SqA K k1 H a xs ∧ SqA K k2 H b ys ∧ SqA K k3 H c zs ∧ xs[i]? = some x ∧ ys[i]? = some y ∧ zs[i]? = some z,
    fun i H v H' => ∃ T x y z, v = .ref T ∧ H T = none ∧ H' = upd H T (.tup [x, y, z]) ∧ (∀ xs, SqA K k1 H a xs → xs[i]? = some x) ∧ (∀ ys, SqA K k2 H b ys → ys[i]? = some y) ∧ ∀ zs, SqA K k3 H c zs → zs[i]? = some z,
    fun i H => ∃ xs ys zs : List V, SqA K k1 H a xs ∧ SqA K k2 H b ys ∧ SqA K k3 H c zs ∧ i ≤ xs.length ∧ i ≤ ys.length ∧ i ≤ zs.length ∧ (i = xs.length ∨ i = ys.length ∨ i = zs.length)⟩
/-- a source lies ahead of its iterator -/
structure Far3 (z TI TO i1 i2 i3 a b c : Addr) : Prop where
  S : ZipSep3 z TI TO i1 i2 i3 [i1, a] [i2, b] [i3, c]
  ai : a ≠ i1
  bi : b ≠ i2
  ci : c ≠ i3
theorem turn_zipM3 {P : Program} {w : World} {K : PySem.W.Frag} {elts : List Expr} {kk : Nat} {tpos : Pos} {k1 k2 k3 : Bool} {a b c z TI TO i1 i2 i3 : Addr} (D : Far3 z TI TO i1 i2 i3 a b c) :
    Turn P w K (.Tuple elts kk tpos) (ItzM3 K k1 k2 k3 a b c) [z, TI, TO, i1, i2, i3] z (fun i h => IsZip h z TI TO .none ∧ IsTupOf3 h TI (.ref i1) (.ref i2) (.ref i3) ∧ (∃ x y u, IsTupOf3 h TO x y u) ∧ IsIA k1 h i1 a i ∧ IsIA k2 h i2 b i ∧ IsIA k3 h i3 c i) where
  mem := by simp
  obj := fun i h st d hc => by
    obtain ⟨hz, hTI, ⟨x, y, u, hTO⟩, h1, h2, h3⟩ := st
    have e' : d = z ∨ d = TI ∨ d = TO ∨ d = i1 ∨ d = i2 ∨ d = i3 := by simpa using hc
    rcases e' with q | q | q | q | q | q
    · rw [q]; exact ⟨_, hz, fun v q => nomatch q⟩
    · rw [q]; exact ⟨_, hTI, fun v q => nomatch q⟩
    · rw [q]; exact ⟨_, hTO, fun v q => nomatch q⟩
    · rw [q]; exact h1.obj
    · rw [q]; exact h2.obj
    · rw [q]; exact h3.obj
  keep := fun i h h' st k => by
    obtain ⟨hz, hTI, ⟨x, y, u, hTO⟩, h1, h2, h3⟩ := st
    exact ⟨k z (by simp) _ hz, k TI (by simp) _ hTI, ⟨x, y, u, k TO (by simp) _ hTO⟩, h1.at fun o q => k i1 (by simp) o q, h2.at fun o q => k i2 (by simp) o q, h3.at fun o q => k i3 (by simp) o q⟩
  item := by
    intro X hP hw hK hc i pins s σ H E I hf st hg
    subst hP hw hK
    obtain ⟨hz, hTI, ⟨x0, y0, u0, hTO⟩, h1, h2, h3⟩ := st
    obtain ⟨xs, ys, zs, x, y, u, hqx, hqy, hqz, hx, hy, hu⟩ := hg
    obtain ⟨its, rv, p⟩ := inv_A I hqx
    obtain ⟨its2, rv2, p2⟩ := inv_A I hqy
    obtain ⟨its3, rv3, p3⟩ := inv_A I hqz
    obtain ⟨w1, hw1, rw1⟩ := rv.get hx
    obtain ⟨w2, hw2, rw2⟩ := rv2.get hy
    obtain ⟨w3, hw3, rw3⟩ := rv3.get hu
    have hl1 : i < its.toArray.size := by simpa using (List.getElem?_eq_some_iff.mp hw1).1
    have hl2 : i < its2.toArray.size := by simpa using (List.getElem?_eq_some_iff.mp hw2).1
    have hl3 : i < its3.toArray.size := by simpa using (List.getElem?_eq_some_iff.mp hw3).1
    have hh : X.A.in1.handled = none := I.ok.hd hc
    have hzl : z < s.heap.objs.size := Heap.lt_size hz
    have S := D.S
    refine wpAny_pyNext_zipD3_item S (draws_A hh k1 i1 a D.ai its.toArray) (draws_A hh k2 i2 b D.bi its2.toArray) (draws_A hh k3 i3 c D.ci its3.toArray) hz hTI hTO ⟨h1, p⟩ ⟨h2, p2⟩ ⟨h3, p3⟩ hl1 hl2 hl3 fun v1 v2 v3 h' tk e1 e2 e3 z' TO' s1' s2' s3' hT hsz hk => ?_
    have q1 : v1 = w1 := Option.some.inj (e1.symm.trans (by simpa using hw1))
    have q2 : v2 = w2 := Option.some.inj (e2.symm.trans (by simpa using hw2))
    have q3 : v3 = w3 := Option.some.inj (e3.symm.trans (by simpa using hw3))
    subst q1 q2 q3
    refine ⟨_, rfl, wpAny_letOwnedTupleGo_zip (s := { s with heap := h', toks := tk }) z' fun h'' z'' sb => ?_⟩
    have hT2 : h''.get? s.heap.objs.size = some { cls := .type "tuple", data := .seq #[v1, v2, v3] } := (sb.2 _ (Nat.ne_of_gt hzl)).trans hT
    have new : ObjOk X.prog X.w (upd H s.heap.objs.size (.tup [x, y, u])) h'' s.heap.objs.size (.tup [x, y, u]) :=
      ⟨by show 3 ≤ sizeLine; decide, [v1, v2, v3], .cons rw1 (.cons rw2 (.cons rw3 .nil)), ⟨_, hT2, rfl, _, rfl⟩⟩
    have I1 : Inv X pins σ (upd H s.heap.objs.size (.tup [x, y, u])) { s with heap := h'', toks := tk } :=
      I.turnedNew (t' := tk) (ch := [z, TI, TO, i1, i2, i3]) (fun d o hb q => (sb.2 d (fun q' => hb (by simp [q']))).trans (hk d o (fun q' => hb (by simp [q'])) (fun q' => hb (by simp [q'])) (fun q' => hb (by simp [q'])) (fun q' => hb (by simp [q'])) (fun q' => hb (by simp [q'])) q)) hf (Nat.le_refl _) new
    refine ⟨.ref s.heap.objs.size, _, I1, rfl, ⟨_, x, y, u, rfl, I.hok.fresh (Nat.le_refl _), rfl, fun l hl => by rw [inj_A I hl hqx]; exact hx, fun l hl => by rw [inj_A I hl hqy]; exact hy, fun l hl => by rw [inj_A I hl hqz]; exact hu⟩, ⟨z'', ?_, ⟨v1, v2, v3, ?_⟩, ?_, ?_, ?_⟩, fun d hcm => ?_⟩
    · exact (sb.2 _ S.TIz).trans (hk _ _ S.TIz S.TITO S.TIi1 S.TIi2 S.TIi3 hTI)
    · exact (sb.2 _ S.TOz).trans TO'
    · exact s1'.1.at fun o q => (sb.2 _ (Ne.symm S.zi1)).trans q
    · exact s2'.1.at fun o q => (sb.2 _ (Ne.symm S.zi2)).trans q
    · exact s3'.1.at fun o q => (sb.2 _ (Ne.symm S.zi3)).trans q
    · have hlt : d < s.heap.objs.size := by
        have e' : d = z ∨ d = TI ∨ d = TO ∨ d = i1 ∨ d = i2 ∨ d = i3 := by simpa using hcm
        rcases e' with q | q | q | q | q | q
        · rw [q]; exact hzl
        · rw [q]; exact Heap.lt_size hTI
        · rw [q]; exact Heap.lt_size hTO
        · rw [q]; obtain ⟨_, e1, _⟩ := h1.obj; exact Heap.lt_size e1
        · rw [q]; obtain ⟨_, e2, _⟩ := h2.obj; exact Heap.lt_size e2
        · rw [q]; obtain ⟨_, e3, _⟩ := h3.obj; exact Heap.lt_size e3
      rw [upd_ne (Nat.ne_of_lt hlt)]
      exact (hf d hcm).1
  done := by
    intro X hP hw hK hc i pins s σ H E I hf st hg
    subst hP hw hK
    obtain ⟨hz, hTI, ⟨x0, y0, u0, hTO⟩, h1, h2, h3⟩ := st
    obtain ⟨xs, ys, zs, hqx, hqy, hqz, hl1, hl2, hl3, hend⟩ := hg
    obtain ⟨its, rv, p⟩ := inv_A I hqx
    obtain ⟨its2, rv2, p2⟩ := inv_A I hqy
    obtain ⟨its3, rv3, p3⟩ := inv_A I hqz
    have n1 := rv.length
    have n2 := rv2.length
    have n3 := rv3.length
    have hh : X.A.in1.handled = none := I.ok.hd hc
    exact wpAny_pyNext_zipD3_end D.S (draws_A hh k1 i1 a D.ai its.toArray) (draws_A hh k2 i2 b D.bi its2.toArray) (draws_A hh k3 i3 c D.ci its3.toArray) hz hTI hTO ⟨h1, p⟩ ⟨h2, p2⟩ ⟨h3, p3⟩ (by simp; omega) (by simp; omega) (by simp; omega) (by simp; omega) fun h' tk hk => ⟨rfl, I.turnedL (t' := tk) (ch := [z, TI, TO, i1, i2, i3]) (fun d o hb q =>
      hk d o (fun q' => hb (by simp [q'])) (fun q' => hb (by simp [q'])) (fun q' => hb (by simp [q'])) (fun q' => hb (by simp [q'])) (fun q' => hb (by simp [q'])) q) hf⟩
  self := fun A i s Q E st h => wpAny_pyIter_zip st.1 h
def itObj (k : Bool) (a : Addr) : Obj := if k then { cls := .type "tuple_iterator", data := .fields #[.ref a, .int 0 0] } else { cls := .type "list_iterator", data := .fields #[.ref a, .int 0 0] }
theorem begins_A (k : Bool) (a : Addr) (items : Array Value) : Begins (.ref a) (itObj k a) fun h => IsSA k h a items := by
  cases k with
  | true => exact begins_tuple a items
  | false => exact begins_list a items
theorem iter_A {k : Bool} {h : Heap} {it a : Addr} (e : h.get? it = some (itObj k a)) : IsIA k h it a 0 := by
  cases k with
  | true => exact ⟨_, e, rfl, rfl⟩
  | false => exact ⟨_, e, rfl, rfl⟩
theorem far3_of {s a b c : Nat} (ha : a < s) (hb : b < s) (hc : c < s) : Far3 (s + 5) (s + 3) (s + 4) s (s + 1) (s + 2) a b c := by
  refine ⟨⟨?_, ?_, ?_, ?_, ?_, ?_, ?_, ?_, ?_, ?_, ?_, ?_, ?_, ?_, ?_, ?_, ?_, ?_, ?_, ?_, ?_⟩, ?_, ?_, ?_⟩ <;> (try simp only [List.mem_cons, List.not_mem_nil, or_false, true_or, not_or]) <;> (try refine ⟨?_, ?_⟩) <;> first | (intro z; exact absurd (show (_ : Nat) = (_ : Nat) from z) (by omega)) | trivial
def iZipM3 (K : PySem.W.Frag) (ta : TA) : TI := fun σ H R => ta σ H fun vs H1 => ∃ a b c k1 k2 k3 xs ys zs, vs = [.ref a, .ref b, .ref c] ∧ SqA K k1 H1 a xs ∧ SqA K k2 H1 b ys ∧ SqA K k3 H1 c zs ∧ R (ItzM3 K k1 k2 k3 a b c) H1
theorem pi_zipM3 {X : Cx} {e e2 e3 : Expr} {ta : TA} {p pos tpos : Pos} {elts : List Expr} {kk : Nat} (hg : Gl X "zip") (hm : X.mg "zip" = none) (ha : PA X [e, e2, e3] ta)
    (hs : starEach [e, e2, e3] X.env = (false, eval e X.env) :: starEach [e2, e3] X.env := by rfl) (hpl : (backTo pos (starEach [e2, e3] X.env)).any (·.1) = false := by rfl) :
    PI X (.Tuple elts kk tpos) (.Call (.Name "zip" p) [e, e2, e3] [] pos) (iZipM3 X.K ta) := by
  refine ⟨fun pins s σ H R I h => ?_⟩
  refine Call_ (ld_blt I hg hm PyProof.Rows.boot_zip (PyProof.Rows.callWith_type1 (thn (ha.run pos pins s σ H _ I h) fun us s1 ⟨vs, H1, I1, r1, q1⟩ => ?_) hs hpl))
  obtain ⟨a, b, c, k1, k2, k3, xs, ys, zs, ex, hqx, hqy, hqz, q⟩ := q1
  subst ex
  cases r1 with
  | cons r rr =>
    cases rr with
    | cons r' rr =>
      cases rr with
      | cons r'' rr =>
        cases rr
        cases r
        cases r'
        cases r''
        have fresh6 : ∀ d, d ∈ [s1.heap.objs.size + 5, s1.heap.objs.size + 3, s1.heap.objs.size + 4, s1.heap.objs.size, s1.heap.objs.size + 1, s1.heap.objs.size + 2] → FpOk X pins H1 d := fun d hcm => by
          have hle : s1.heap.objs.size ≤ d := by
            simp only [List.mem_cons, List.not_mem_nil, or_false] at hcm
            omega
          exact I1.fpOk hle (I1.hok.fresh hle)
        obtain ⟨its, rv, p1⟩ := inv_A I1 hqx
        obtain ⟨its2, rv2, p2⟩ := inv_A I1 hqy
        obtain ⟨its3, rv3, p3⟩ := inv_A I1 hqz
        refine zip_begins3 (begins_A k1 a its.toArray) (begins_A k2 b its2.toArray) (begins_A k3 c its3.toArray) p1 p2 p3 fun h' hz hTI hTO h1 h2 h3 hsz hk => wpAny_pyIter_zip hz ?_
        have I2 : Inv X pins σ H1 { s1 with heap := h' } := I1.kept (t' := s1.toks) hk
        exact ⟨s1.heap.objs.size + 5, [s1.heap.objs.size + 5, s1.heap.objs.size + 3, s1.heap.objs.size + 4, s1.heap.objs.size, s1.heap.objs.size + 1, s1.heap.objs.size + 2], _, _, H1, rfl, I2, turn_zipM3 (far3_of p1.lt p2.lt p3.lt), ⟨hz, hTI, ⟨_, _, _, hTO⟩, iter_A h1, iter_A h2, iter_A h3⟩, fresh6, q⟩
end DL

set_option maxHeartbeats 4000000
/-! list(zip(a, b)) of two lists -/
namespace DL
open PySem PySem.Spec PyProof.Rows L2
theorem zip_no_len : typeLookup (.type "zip") "__len__" = pure none := by rw [typeLookup_type, builtinLookup_eq_fast]; kernel_rfl
theorem zip_no_hint : typeLookup (.type "zip") "__length_hint__" = pure none := by rw [typeLookup_type, builtinLookup_eq_fast]; kernel_rfl
/-- a zip amid its turns, its pairs held -/
def ZilSt (h : Heap) (z TI TO i1 i2 l1 l2 S : Addr) (i : Nat) (xs ys : Array Value) : Prop :=
  IsPair h TI (.ref i1) (.ref i2) ∧ h.IsListIter i1 l1 i ∧ h.IsListIter i2 l2 i ∧ h.IsList l1 xs ∧ h.IsList l2 ys ∧
    ((IsZip h z TI TO .none ∧ ∃ a b, IsPair h TO a b) ∨ ∃ T f oT, IsZipHeld h z TI TO T f ∧ h.get? T = some oT ∧ T ≠ z ∧ T ≠ i1 ∧ T ≠ i2 ∧ T ≠ S)
structure ZilOff (z TI TO i1 i2 l1 l2 S : Addr) : Prop where
  z : z ≠ S
  TI : TI ≠ S
  TO : TO ≠ S
  i1 : i1 ≠ S
  i2 : i2 ≠ S
  l1 : l1 ≠ S
  l2 : l2 ≠ S
section
variable {prog : Program} {w : World} {A : Around} {E : Value → Shared → Prop} {s : Shared} {z TI TO i1 i2 l1 l2 S : Addr} {i : Nat} {xs ys : Array Value}
theorem ZilSt.keep {h h' : Heap} (O : ZilOff z TI TO i1 i2 l1 l2 S) (st : ZilSt h z TI TO i1 i2 l1 l2 S i xs ys) (hk : ∀ b o, b ≠ S → h.get? b = some o → h'.get? b = some o) : ZilSt h' z TI TO i1 i2 l1 l2 S i xs ys := by
  obtain ⟨hTI, h1, h2, hl1, hl2, hz⟩ := st
  refine ⟨hk _ _ O.TI hTI, h1.at fun o e => hk _ o O.i1 e, h2.at fun o e => hk _ o O.i2 e, hl1.at fun o e => hk _ o O.l1 e, hl2.at fun o e => hk _ o O.l2 e, ?_⟩
  rcases hz with ⟨hz, a, b, hTO⟩ | ⟨T, f, oT, hz, hT, r1, r2, r3, r4⟩
  · exact .inl ⟨hk _ _ O.z hz, a, b, hk _ _ O.TO hTO⟩
  · exact .inr ⟨T, f, oT, hk _ _ O.z hz, hk _ _ r4 hT, r1, r2, r3, r4⟩
theorem zil_item {x y : Value} {Q : Option Value → Shared → Prop} (D : ZipApart z TI TO i1 i2 l1 l2) (st : ZilSt s.heap z TI TO i1 i2 l1 l2 S i xs ys) (hS : S < s.heap.objs.size) (hx : xs[i]? = some x) (hy : ys[i]? = some y)
    (hQ : ∀ h', ZilSt h' z TI TO i1 i2 l1 l2 S (i + 1) xs ys → IsPair h' s.heap.objs.size x y → h'.objs.size = s.heap.objs.size + 1 → (∀ c o, c ≠ z → c ≠ TO → c ≠ i1 → c ≠ i2 → s.heap.get? c = some o → h'.get? c = some o) → Q (some (.ref s.heap.objs.size)) { s with heap := h' }) :
    wpAny (model prog w) A (pyNext (.ref z)) Q E s := by
  obtain ⟨hTI, h1, h2, hl1, hl2, hz⟩ := st
  have lt : ∀ {c o}, s.heap.get? c = some o → s.heap.objs.size ≠ c := fun e => Nat.ne_of_gt (Heap.lt_size e)
  have n1 : s.heap.objs.size ≠ i1 := let ⟨_, e, _⟩ := h1; lt e
  have n2 : s.heap.objs.size ≠ i2 := let ⟨_, e, _⟩ := h2; lt e
  rcases hz with ⟨hz, a, b, hTO⟩ | ⟨T, f, oT, hz, hT, r1, r2, r3, r4⟩
  · refine wpAny_pyNext_zip_item D hz hTI hTO h1 h2 hl1 hl2 hx hy fun h' a1 a2 a3 a4 a5 a6 hk => ?_
    exact hQ h' ⟨hk _ _ D.TIz D.TITO D.TIi1 D.TIi2 hTI, a3, a4, hl1.at fun o e => hk _ o D.l1z D.l1TO D.l1i1 D.l1i2 e, hl2.at fun o e => hk _ o D.l2z D.l2TO D.l2i1 D.l2i2 e,
      .inr ⟨s.heap.objs.size, false, _, a1, a5, lt hz, n1, n2, Nat.ne_of_gt hS⟩⟩ a5 a6 hk
  · refine wpAny_pyNext_zip_item_held D hz hT hTI h1 h2 hl1 hl2 hx hy fun h' a1 a3 a4 a5 a6 hk => ?_
    exact hQ h' ⟨hk _ _ D.TIz D.TIi1 D.TIi2 hTI, a3, a4, hl1.at fun o e => hk _ o D.l1z D.l1i1 D.l1i2 e, hl2.at fun o e => hk _ o D.l2z D.l2i1 D.l2i2 e,
      .inr ⟨T, true, oT, a1, hk _ _ r1 r2 r3 hT, r1, r2, r3, r4⟩⟩ a5 a6 fun c o c1 _ c2 c3 e => hk c o c1 c2 c3 e
theorem zil_done {Q : Option Value → Shared → Prop} (hh : A.handled = none) (D : ZipApart z TI TO i1 i2 l1 l2) (st : ZilSt s.heap z TI TO i1 i2 l1 l2 S i xs ys) (hend : xs[i]? = none ∨ ys[i]? = none)
    (hQ : ∀ h', (∀ c o, c ≠ z → c ≠ TO → c ≠ i1 → c ≠ i2 → s.heap.get? c = some o → h'.get? c = some o) → Q none { s with heap := h' }) : wpAny (model prog w) A (pyNext (.ref z)) Q E s := by
  obtain ⟨hTI, h1, h2, hl1, hl2, hz⟩ := st
  rcases hz with ⟨hz, a, b, hTO⟩ | ⟨T, f, oT, hz, hT, r1, r2, r3, r4⟩
  · exact wpAny_pyNext_zip_end hh D hz hTI hTO h1 h2 hl1 hl2 hend fun h' hk => hQ h' hk
  · exact wpAny_pyNext_zip_end_held hh D hz hT hTI h1 h2 hl1 hl2 hend fun h' hk => hQ h' fun c o c1 _ c2 c3 e => hk c o c1 c2 c3 e
end
/-- the pairs that were laid -/
structure ZilG (xs ys : Array Value) (lo : Addr) (h : Heap) (as : List Addr) : Prop where
  rise : as.Pairwise (· < ·)
  above : ∀ a ∈ as, lo < a
  pairs : ∀ (j : Nat) (a : Addr), as[j]? = some a → ∃ x y, xs[j]? = some x ∧ ys[j]? = some y ∧ IsPair h a x y
theorem ZilG.there {xs ys : Array Value} {lo : Addr} {h : Heap} {as : List Addr} (g : ZilG xs ys lo h as) {a : Addr} (ha : a ∈ as) : a < h.objs.size := by
  obtain ⟨j, hj⟩ := List.mem_iff_getElem?.mp ha
  obtain ⟨_, _, _, _, e⟩ := g.pairs j a hj
  exact Heap.lt_size e
section
variable {prog : Program} {w : World} {A : Around} {E : Value → Shared → Prop} {s : Shared} {R : Result → Shared → Prop} {z TI TO i1 i2 l1 l2 S : Addr} {xs ys : Array Value}
theorem zil_loop (hh : A.handled = none) (D : ZipApart z TI TO i1 i2 l1 l2) (O : ZilOff z TI TO i1 i2 l1 l2 S) (hzS : z < S) (hTS : TO < S) (h1S : i1 < S) (h2S : i2 < S) (hn : min xs.size ys.size ≤ sizeLine) (res : Value) {h₁ : Heap}
    (hR : ∀ h' tk acc c as, (∀ b o, b ≠ S → b ≠ z → b ≠ TO → b ≠ i1 → b ≠ i2 → h₁.get? b = some o → h'.get? b = some o) → h'.get? S = some { cls := .type "list", dict := none, data := .seq acc c, slots := #[] } → as.length = min xs.size ys.size → ZilG xs ys S h' as →
      acc.toList = as.map Value.ref → R (.ok (.ret res)) { s with heap := h', toks := tk }) :
    ∀ (k i : Nat) (h : Heap) (tk c : Nat) (acc : Array Value) (as : List Addr), min xs.size ys.size - i = k → i ≤ min xs.size ys.size → ZilSt h z TI TO i1 i2 l1 l2 S i xs ys → (∀ b o, b ≠ S → b ≠ z → b ≠ TO → b ≠ i1 → b ≠ i2 → h₁.get? b = some o → h.get? b = some o) →
      h.get? S = some { cls := .type "list", dict := none, data := .seq acc c, slots := #[] } → acc.toList = as.map Value.ref → as.length = i → ZilG xs ys S h as →
      codeAny (model prog w) A (.builtin "list.extend.loop" ⟨[.ref S, .ref z, res], []⟩) R { s with heap := h, toks := tk } := by
  intro k
  induction k with
  | zero =>
    intro i h tk c acc as hk hi hst hkeep hS hacc hal hG
    have hin : i = min xs.size ys.size := by omega
    have hend : xs[i]? = none ∨ ys[i]? = none := by
      rcases Nat.le_total xs.size ys.size with q | q
      · exact .inl (Array.getElem?_eq_none (by omega))
      · exact .inr (Array.getElem?_eq_none (by omega))
    refine codeAny_builtin PySem.F.entry_extend_loop ?_
    rw [Around.under_plainId PySem.F.plain_extend_loop _]
    show wpAny _ A.in1 (pyNext (.ref z) >>= _) _ _ _
    refine wpAny_bind (zil_done (s := { s with heap := h, toks := tk }) (A := A.in1) hh D hst hend fun h' he => ?_)
    refine wpAny_pure (hR h' tk acc c as (fun b o h1 h2 h3 h4 h5 e => he b o h2 h3 h4 h5 (hkeep b o h1 h2 h3 h4 h5 e)) (he S _ (Ne.symm O.z) (Ne.symm O.TO) (Ne.symm O.i1) (Ne.symm O.i2) hS) (by omega) ⟨hG.rise, hG.above, fun j a hj => ?_⟩ hacc)
    obtain ⟨x, y, hx, hy, e3⟩ := hG.pairs j a hj
    have hb := hG.above a (List.mem_of_getElem? hj)
    exact ⟨x, y, hx, hy, he a _ (Nat.ne_of_gt (Nat.lt_trans hzS hb)) (Nat.ne_of_gt (Nat.lt_trans hTS hb)) (Nat.ne_of_gt (Nat.lt_trans h1S hb)) (Nat.ne_of_gt (Nat.lt_trans h2S hb)) e3⟩
  | succ k ih =>
    intro i h tk c acc as hk hi hst hkeep hS hacc hal hG
    have hix : i < xs.size := by omega
    have hiy : i < ys.size := by omega
    have ex := Array.getElem?_eq_getElem hix
    have ey := Array.getElem?_eq_getElem hiy
    have hsz : acc.size = i := by rw [← Array.length_toList, hacc, List.length_map, hal]
    refine codeAny_builtin PySem.F.entry_extend_loop ?_
    rw [Around.under_plainId PySem.F.plain_extend_loop _]
    show wpAny _ A.in1 (pyNext (.ref z) >>= _) _ _ _
    refine wpAny_bind (zil_item (s := { s with heap := h, toks := tk }) D hst (Heap.lt_size hS) ex ey fun h' hst' ht hz hkp => ?_)
    dsimp only at ht hz hkp ⊢
    have hS' := hkp S _ (Ne.symm O.z) (Ne.symm O.TO) (Ne.symm O.i1) (Ne.symm O.i2) hS
    have up : ∀ b o, b ≠ S → h'.get? b = some o → (h'.update S (Obj.mapSeq (·.push (Value.ref h.objs.size)))).get? b = some o := fun b o hb e => (Heap.get?_update_other _ _ (Ne.symm hb)).trans e
    have hSl : S < h.objs.size := Heap.lt_size hS
    show wpAny _ A.in1 (updateSeq S (·.push (Value.ref h.objs.size)) >>= _) _ _ _
    refine wpAny_bind ?_
    refine wpAny_updateSeq hS' rfl (wpAny_pure ⟨plainId_quiet PySem.F.plain_extend_loop _, ih (i + 1) _ tk _ (acc.push (Value.ref h.objs.size)) (as ++ [h.objs.size]) (by omega) (by omega) (hst'.keep O up)
      (fun b o h1 h2 h3 h4 h5 e => up b o h1 (hkp b o h2 h3 h4 h5 (hkeep b o h1 h2 h3 h4 h5 e))) (Heap.get?_update_self _ hS' rfl) (by rw [Array.toList_push, hacc, List.map_append]; rfl) (by rw [List.length_append, hal]; rfl) ⟨?_, ?_, ?_⟩⟩) (by rw [hsz]; omega) (by show (acc.push (Value.ref h.objs.size)).size ≤ sizeLine + 1; rw [Array.size_push, hsz]; omega)
    · refine List.pairwise_append.mpr ⟨hG.rise, List.pairwise_singleton _ _, fun a ha b hb => ?_⟩
      rw [List.mem_singleton.mp hb]
      exact hG.there ha
    · intro a ha
      rcases List.mem_append.mp ha with ha | ha
      · exact hG.above a ha
      · rw [List.mem_singleton.mp ha]; exact hSl
    · intro j b hj
      rcases Nat.lt_trichotomy j as.length with h1 | h1 | h1
      · rw [List.getElem?_append_left h1] at hj
        obtain ⟨x, y, hx, hy, e3⟩ := hG.pairs j b hj
        have hb := hG.above b (List.mem_of_getElem? hj)
        exact ⟨x, y, hx, hy, up b _ (Nat.ne_of_gt hb) (hkp b _ (Nat.ne_of_gt (Nat.lt_trans hzS hb)) (Nat.ne_of_gt (Nat.lt_trans hTS hb)) (Nat.ne_of_gt (Nat.lt_trans h1S hb)) (Nat.ne_of_gt (Nat.lt_trans h2S hb)) e3)⟩
      · subst h1
        have hb : h.objs.size = b := by simpa using hj
        subst hb
        exact ⟨_, _, by rw [hal]; exact ex, by rw [hal]; exact ey, up _ _ (Nat.ne_of_gt hSl) ht⟩
      · have hnone : (as ++ [h.objs.size])[j]? = none := List.getElem?_eq_none (by rw [List.length_append, List.length_singleton]; omega)
        rw [hnone] at hj; cases hj
end
/-- list(z), z a zip of two lists that no one has turned -/
theorem zil_call {prog : Program} {w : World} {A : Around} {E : Value → Shared → Prop} {s : Shared} {z TI TO i1 i2 l1 l2 : Addr} {xs ys : Array Value} {Q : Value → Shared → Prop} (hh : A.handled = none) (D : ZipApart z TI TO i1 i2 l1 l2)
    (hz : IsZip s.heap z TI TO .none) (hTI : IsPair s.heap TI (.ref i1) (.ref i2)) (hTO : ∃ a b, IsPair s.heap TO a b) (h1 : s.heap.IsListIter i1 l1 0) (h2 : s.heap.IsListIter i2 l2 0) (hl1 : s.heap.IsList l1 xs) (hl2 : s.heap.IsList l2 ys) (hn : min xs.size ys.size ≤ sizeLine)
    (hQ : ∀ h' tk acc c as, (∀ b o, b ≠ z → b ≠ TO → b ≠ i1 → b ≠ i2 → s.heap.get? b = some o → h'.get? b = some o) → h'.get? s.heap.objs.size = some { cls := .type "list", dict := none, data := .seq acc c, slots := #[] } → as.length = min xs.size ys.size → ZilG xs ys s.heap.objs.size h' as →
      acc.toList = as.map Value.ref → Q (.ref s.heap.objs.size) { s with heap := h', toks := tk }) :
    wpAny (model prog w) A (call (.type "list") [.ref z]) Q E s := by
  refine callType_codes (Q₁ := fun obj s₁ => obj = .ref s.heap.objs.size ∧ s₁ = { s with heap := s.heap.push { cls := .type "list", data := .seq #[] } }) PySem.F.called_list (PySem.F.typeCall_list_1 _) PySem.F.entry_list_init
    (code_list_new _ ⟨rfl, rfl⟩) fun obj s₁ h₁ => ?_
  obtain ⟨rfl, rfl⟩ := h₁
  have hS : (s.heap.push { cls := .type "list", data := .seq #[] }).get? s.heap.objs.size = some { cls := .type "list", data := .seq #[] } := Heap.get?_push_size _ rfl
  have zS := Heap.lt_size hz
  have TS := Heap.lt_size hTI
  have OS : TO < s.heap.objs.size := let ⟨_, _, e⟩ := hTO; Heap.lt_size e
  have S1 : i1 < s.heap.objs.size := let ⟨_, e, _⟩ := h1; Heap.lt_size e
  have S2 : i2 < s.heap.objs.size := let ⟨_, e, _⟩ := h2; Heap.lt_size e
  have L1 : l1 < s.heap.objs.size := let ⟨_, e, _⟩ := hl1; Heap.lt_size e
  have L2 : l2 < s.heap.objs.size := let ⟨_, e, _⟩ := hl2; Heap.lt_size e
  have O : ZilOff z TI TO i1 i2 l1 l2 s.heap.objs.size := ⟨Nat.ne_of_lt zS, Nat.ne_of_lt TS, Nat.ne_of_lt OS, Nat.ne_of_lt S1, Nat.ne_of_lt S2, Nat.ne_of_lt L1, Nat.ne_of_lt L2⟩
  refine ⟨⟨_, hS, rfl⟩, PySem.F.args_list_init_2 _ _, ?_⟩
  show wpAny _ A.in1.in1 (do let old ← Builtin.List.listItems (.ref s.heap.objs.size); Builtin.List.listUpdate (.ref s.heap.objs.size) (fun _ => #[]); letGo old.toList.reverse; Builtin.List.listExtendWith (.ref s.heap.objs.size) (.ref z) .none) _ _ _
  refine wpAny_bind ?_
  unfold Builtin.List.listItems
  refine wpAny_bind (wpAny_seqItems hS rfl (wpAny_pure ?_))
  show wpAny _ A.in1.in1 (updateSeq s.heap.objs.size (fun _ => #[]) >>= fun _ => letGo (#[] : Array Value).toList.reverse >>= fun _ => Builtin.List.listExtendWith (.ref s.heap.objs.size) (.ref z) .none) _ _ _
  refine wpAny_bind (wpAny_updateSeq hS rfl ?_)
  have hS2 := Heap.get?_update_self (Obj.mapSeq (fun _ => (#[] : Array Value))) hS rfl
  refine wpAny_bind (wpAny_letGo ?_)
  unfold Builtin.List.listExtendWith
  have up : ∀ (h : Heap) (f : Obj → Obj), (∀ b o, s.heap.get? b = some o → h.get? b = some o) → ∀ b o, s.heap.get? b = some o → (h.update s.heap.objs.size f).get? b = some o := fun h f q b o e =>
    (Heap.get?_update_other _ _ (Ne.symm (Nat.ne_of_lt (Heap.lt_size e)))).trans (q b o e)
  have k1 : ∀ b o, s.heap.get? b = some o → (s.heap.push { cls := .type "list", data := .seq #[] }).get? b = some o := fun b o e => Heap.get?_push_of_some _ e
  have k2 := up _ (Obj.mapSeq (fun _ => (#[] : Array Value))) k1
  refine wpAny_bind (wpAny_typeOf (T := "zip") ⟨_, k2 _ _ hz, rfl⟩ ?_)
  have q1 : Builtin.List.listSameRef (.ref s.heap.objs.size) (.ref z) = false := by simp [Builtin.List.listSameRef, Ne.symm O.z]
  have q2 : (Value.type "zip" == Value.type "list") = false := by decide
  have q3 : (Value.type "zip" == Value.type "tuple") = false := by decide
  simp only [q1, q2, q3, Bool.or_false, Bool.false_eq_true, if_false]
  refine wpAny_bind (wpAny_pyIter_zip (s := { s with heap := _ }) (k2 _ _ hz) ?_)
  refine wpAny_bind (wpAny_holding ?_)
  unfold Builtin.List.listLengthHint
  refine wpAny_bind (wpAny_specialOf (T := "zip") ⟨_, k2 _ _ hz, rfl⟩ zip_no_len ?_)
  show wpAny _ A.in1.in1 (specialOf (Value.ref z) (Str.ofString "__length_hint__") >>= _) _ _ _
  refine wpAny_bind (wpAny_specialOf (T := "zip") ⟨_, k2 _ _ hz, rfl⟩ zip_no_hint ?_)
  refine wpAny_pure ?_
  show wpAny _ A.in1.in1 (rule "list.extend.makes-room" >>= fun _ => Builtin.List.listTouch (.ref s.heap.objs.size) >>= fun _ =>
    again (.builtin "list.extend.loop" ⟨[.ref s.heap.objs.size, .ref z, .none], []⟩)) _ _ _
  refine wpAny_bind (wpAny_rule ?_)
  refine wpAny_bind ?_
  show wpAny _ A.in1.in1 (updateSeq s.heap.objs.size (·.push .none) >>= fun _ => updateSeq s.heap.objs.size (·.pop)) _ _ _
  refine wpAny_bind (wpAny_updateSeq hS2 rfl ?_)
  have hS3 := Heap.get?_update_self (Obj.mapSeq (·.push Value.none)) hS2 rfl
  refine wpAny_updateSeq (hz := by seq_fits) hS3 rfl ?_
  have hS4 := Heap.get?_update_self (Obj.mapSeq (·.pop)) hS3 rfl
  have k4 := up _ (Obj.mapSeq (·.pop)) (up _ (Obj.mapSeq (·.push Value.none)) k2)
  obtain ⟨ta, tb, hTO⟩ := hTO
  refine wpAny_pure ⟨plainId_quiet PySem.F.plain_extend_loop _, ?_⟩
  exact zil_loop (A := A.in1) (s := s) (h₁ := s.heap) (xs := xs) (ys := ys) hh D O zS OS S1 S2 hn .none (fun h' tk acc c as hk hS' hl hG hacc => ⟨rfl, hQ h' tk acc c as (fun b o b1 b2 b3 b4 e => hk b o (Nat.ne_of_lt (Heap.lt_size e)) b1 b2 b3 b4 e) hS' hl hG hacc⟩)
    (min xs.size ys.size) 0 _ _ _ #[] [] (Nat.sub_zero _) (Nat.zero_le _) ⟨k4 _ _ hTI, h1.at fun o e => k4 _ o e, h2.at fun o e => k4 _ o e, hl1.at fun o e => k4 _ o e, hl2.at fun o e => k4 _ o e, .inl ⟨k4 _ _ hz, ta, tb, k4 _ _ hTO⟩⟩
    (fun b o _ _ _ _ _ e => k4 b o e) hS4 rfl rfl ⟨List.Pairwise.nil, (fun _ ha => nomatch ha), fun j a hj => by simp at hj⟩
/-- pairs laid one behind the other -/
def growT : List (V × V) → Hp → (List V → Hp → Prop) → Prop
  | [], H, Q => Q [] H
  | p :: r, H, Q => ∀ q, H q = none → growT r (upd H q (.tup [p.1, p.2])) fun vs H' => Q (.ref q :: vs) H'
theorem grow_take {X : Cx} {pins : List (Addr × Obj)} {σ : L2.St} {s' : Shared} {sz : Nat} (base : ∀ b, sz ≤ b → ∀ H' : Hp, H' b = none → FpOk X pins H' b) :
    ∀ (ps : List (V × V)) (as : List Addr) (H : Hp) (Q : List V → Hp → Prop), Inv X pins σ H s' → as.length = ps.length → as.Pairwise (· < ·) → (∀ a ∈ as, sz ≤ a ∧ H a = none) →
      (∀ (j : Nat) (a : Addr) (p : V × V), as[j]? = some a → ps[j]? = some p → ∃ v w, RelV p.1 v ∧ RelV p.2 w ∧ IsPair s'.heap a v w) → growT ps H Q → ∃ H2, Inv X pins σ H2 s' ∧ Q (as.map V.ref) H2 ∧ ∀ b, b ∉ as → H2 b = H b
  | [], [], H, Q, I, _, _, _, _, h => ⟨H, I, h, fun _ _ => rfl⟩
  | [], _ :: _, _, _, _, hl, _, _, _, _ => by simp at hl
  | _ :: _, [], _, _, _, hl, _, _, _, _ => by simp at hl
  | p :: ps, a :: as, H, Q, I, hl, hp, ha, hpr, h => by
    obtain ⟨v, w, rv, rw', ip⟩ := hpr 0 a p rfl rfl
    obtain ⟨a1, a2⟩ := ha a (List.mem_cons_self ..)
    have I2 : Inv X pins σ (upd H a (.tup [p.1, p.2])) s' := I.take (t' := s'.toks) (h' := s'.heap) (fun b o _ e => e) (base a a1 H a2) ⟨by show 2 ≤ sizeLine; decide, [v, w], .cons rv (.cons rw' .nil), ⟨_, ip, rfl, _, rfl⟩⟩
    rw [List.pairwise_cons] at hp
    obtain ⟨H2, J, q, hk⟩ := grow_take base ps as _ _ I2 (by simpa using hl) hp.2 (fun b hb => ⟨(ha b (List.mem_cons_of_mem _ hb)).1, by rw [upd_ne (Nat.ne_of_gt (hp.1 b hb))]; exact (ha b (List.mem_cons_of_mem _ hb)).2⟩) (fun j b r hj hr => hpr (j + 1) b r (by simpa using hj) (by simpa using hr)) (h a a2)
    exact ⟨H2, J, q, fun b hb => by
      rw [hk b fun z => hb (List.mem_cons_of_mem _ z), upd_ne fun z => hb (by rw [z]; exact List.mem_cons_self ..)]⟩
theorem vals_refs : ∀ as : List Addr, Vals (as.map V.ref) (as.map Value.ref)
  | [] => .nil
  | _ :: as => .cons rfl (vals_refs as)
def tListZip (K : PySem.W.Frag) (ta : TA) : TE := fun σ H Q => ta σ H fun vs H1 => ∃ a b xs ys, vs = [.ref a, .ref b] ∧ SqA K false H1 a xs ∧ SqA K false H1 b ys ∧ (xs.zip ys).length ≤ sizeLine ∧ growT (xs.zip ys) H1 fun us H2 => ∀ q, H2 q = none → Q (.ref q) (upd H2 q (.lst us))
theorem pe_listZip {X : Cx} {e e2 : Expr} {ta : TA} {p pos p2 pos2 : Pos} (hc : X.calm = true) (hg : Gl X "list") (hm : X.mg "list" = none) (hgz : Gl X "zip") (hmz : X.mg "zip" = none) (ha : PA X [e, e2] ta)
    (hs : starEach [e, e2] X.env = (false, eval e X.env) :: starEach [e2] X.env := by rfl) (hpl : (backTo pos2 (starEach [e2] X.env)).any (·.1) = false := by rfl)
    (na : starEach [.Call (.Name "zip" p2) [e, e2] [] pos2] X.env = (false, eval (.Call (.Name "zip" p2) [e, e2] [] pos2) X.env) :: starEach [] X.env := by rfl) :
    PE X (.Call (.Name "list" p) [.Call (.Name "zip" p2) [e, e2] [] pos2] [] pos) (tListZip X.K ta) := by
  refine ⟨fun pins s σ H Q I h => ?_⟩
  have inner : wpAny (model X.prog X.w) X.A (eval (.Call (.Name "zip" p2) [e, e2] [] pos2) X.env) (fun x s' => ∃ (s1 : Shared) (h' : Heap) (H1 : Hp) (a b : Addr) (xs ys : List V) (its its2 : List Value), x = .ref (s1.heap.objs.size + 4) ∧ s' = { s1 with heap := h' } ∧ Inv X pins σ H1 s1 ∧ Vals xs its ∧ Vals ys its2 ∧
      s1.heap.IsList a its.toArray ∧ s1.heap.IsList b its2.toArray ∧ IsZip h' (s1.heap.objs.size + 4) (s1.heap.objs.size + 2) (s1.heap.objs.size + 3) .none ∧ IsPair h' (s1.heap.objs.size + 2) (.ref s1.heap.objs.size) (.ref (s1.heap.objs.size + 1)) ∧
      IsPair h' (s1.heap.objs.size + 3) .none .none ∧ h'.IsListIter s1.heap.objs.size a 0 ∧ h'.IsListIter (s1.heap.objs.size + 1) b 0 ∧ h'.objs.size = s1.heap.objs.size + 5 ∧ (∀ c o, s1.heap.get? c = some o → h'.get? c = some o) ∧
      (xs.zip ys).length ≤ sizeLine ∧ growT (xs.zip ys) H1 fun us H2 => ∀ q, H2 q = none → Q (.ref q) (upd H2 q (.lst us))) X.xe s := by
    refine Call_ (ld_blt I hgz hmz PyProof.Rows.boot_zip (PyProof.Rows.callWith_type1 (thn (ha.run pos2 pins s σ H _ I h) fun us s1 ⟨vs, H1, I1, r1, q1⟩ => ?_) hs hpl))
    obtain ⟨a, b, xs, ys, ex, hqx, hqy, hl, q⟩ := q1
    subst ex
    cases r1 with
    | cons r rr =>
      cases rr with
      | cons r' rr =>
        cases rr
        cases r
        cases r'
        obtain ⟨its, rv, p1⟩ := inv_A I1 hqx
        obtain ⟨its2, rv2, p2⟩ := inv_A I1 hqy
        exact call_zipM p1 p2 fun h' hz hTI hTO h1 h2 hsz hk => ⟨s1, h', H1, a, b, xs, ys, its, its2, rfl, rfl, I1, rv, rv2, p1, p2, hz, hTI, hTO, h1, h2, hsz, hk, hl, q⟩
  refine Call_ (ld_blt I hg hm boot_list (PyProof.Rows.callWith_type1 (args_cons (thn inner fun x s2 hx => args_nil ?_) na) na))
  obtain ⟨s1, h', H1, a, b, xs, ys, its, its2, rfl, rfl, I1, rv, rv2, p1, p2, hz, hTI, hTO, h1, h2, hsz, hk, hl, q⟩ := hx
  have n1 := rv.length
  have n2 := rv2.length
  have I2 : Inv X pins σ H1 { s1 with heap := h' } := I1.kept (t' := s1.toks) hk
  have la : a < s1.heap.objs.size := let ⟨_, e, _⟩ := p1; Heap.lt_size e
  have lb : b < s1.heap.objs.size := let ⟨_, e, _⟩ := p2; Heap.lt_size e
  have base : ∀ c, s1.heap.objs.size ≤ c → ∀ H' : Hp, H' c = none → FpOk X pins H' c := fun c hc' H' hn => I1.fpOk hc' hn
  have mn : min its.toArray.size its2.toArray.size = (xs.zip ys).length := by rw [List.length_zip, List.size_toArray, List.size_toArray]; omega
  refine zil_call (s := { s1 with heap := h' }) (xs := its.toArray) (ys := its2.toArray) (I1.ok.hd hc) (PySem.W.ktu_apart s1.heap.objs.size a b la lb) hz hTI ⟨_, _, hTO⟩ h1 h2 (p1.at fun o e => hk _ o e) (p2.at fun o e => hk _ o e) (by rw [mn]; exact hl) fun h3 tk acc c as hk3 hS hal hG hacc => ?_
  dsimp only at hS hG hk3 ⊢
  rw [hsz] at hS hG ⊢
  have I3 : Inv X pins σ H1 { s1 with heap := h3, toks := tk } := Inv.turnedL (s := { s1 with heap := h' }) (h' := h3) (t' := tk) I2 (ch := [s1.heap.objs.size + 4, s1.heap.objs.size + 3, s1.heap.objs.size, s1.heap.objs.size + 1]) (fun d o hb e => hk3 d o (fun z => hb (by simp [z])) (fun z => hb (by simp [z])) (fun z => hb (by simp [z])) (fun z => hb (by simp [z])) e) (fun d hd => by
    have e' : d = s1.heap.objs.size + 4 ∨ d = s1.heap.objs.size + 3 ∨ d = s1.heap.objs.size ∨ d = s1.heap.objs.size + 1 := by simpa using hd
    have hle : s1.heap.objs.size ≤ d := by
      rcases e' with z | z | z | z
      · rw [z]; exact Nat.le_add_right _ _
      · rw [z]; exact Nat.le_add_right _ _
      · rw [z]; exact Nat.le_refl _
      · rw [z]; exact Nat.le_add_right _ _
    exact I1.fpOk hle (I1.hok.fresh hle))
  obtain ⟨H2, J, q2, hkH⟩ := grow_take base (xs.zip ys) as H1 _ I3 (by rw [hal, mn]) hG.rise (fun d hd => by
      have := hG.above d hd
      exact ⟨Nat.le_of_lt (Nat.lt_of_le_of_lt (Nat.le_add_right _ _) this), I1.hok.fresh (Nat.le_of_lt (Nat.lt_of_le_of_lt (Nat.le_add_right _ _) this))⟩) (fun j d r hj hr => by
      obtain ⟨x, y, hx, hy, ip⟩ := hG.pairs j d hj
      rw [List.getElem?_zip_eq_some] at hr
      obtain ⟨w1, hw1, rw1⟩ := rv.get hr.1
      obtain ⟨w2, hw2, rw2⟩ := rv2.get hr.2
      have q1 : w1 = x := Option.some.inj (hw1.symm.trans (by simpa using hx))
      have q2 : w2 = y := Option.some.inj (hw2.symm.trans (by simpa using hy))
      subst q1 q2
      exact ⟨_, _, rw1, rw2, ip⟩) q
  have hSn : s1.heap.objs.size + 5 ∉ as := fun z => Nat.lt_irrefl _ (hG.above _ z)
  have hS0 : H2 (s1.heap.objs.size + 5) = none := by rw [hkH _ hSn]; exact I1.hok.fresh (Nat.le_add_right _ _)
  refine ⟨.ref (s1.heap.objs.size + 5), upd H2 (s1.heap.objs.size + 5) (.lst (as.map V.ref)), J.take (t' := tk) (fun _ _ _ e => e) (base _ (Nat.le_add_right _ _) H2 hS0) ⟨?_, as.map Value.ref, c, vals_refs as, ?_⟩, rfl, q2 _ hS0⟩
  · rw [List.length_map, hal, mn]; exact hl
  · rw [← hacc, Array.toArray_toList]; exact hS
end DL

namespace DL
open PySem PySem.Spec PyProof.Rows L2
/-! ### walks -/
section
variable {X : Cx} {K : PySem.W.Frag} {η μ : List Addr} {S : DStore} {H : Hp} {tg : Expr}
theorem it_end {pins : List (Addr × Obj)} {σ : L2.St} {H1 : Hp} {s1 : Shared} (I1 : Inv X pins σ H1 s1) : ∀ b ∈ [s1.heap.objs.size], FpOk X pins H1 b := by
  intro b hb
  rw [List.mem_singleton.mp hb]
  exact I1.fpOk (Nat.le_refl _) (I1.hok.fresh (Nat.le_refl _))
theorem it_lst {pins : List (Addr × Obj)} {σ : L2.St} {H1 : Hp} {s1 : Shared} {R : It → Hp → Prop} {E : Value → Shared → Prop} {a : Addr} {xs : List V} (I1 : Inv X pins σ H1 s1) (hq : SqL X.K H1 a xs) (q : R (Itl X.K a) H1) :
    wpAny (model X.prog X.w) X.A (pyIter (.ref a)) (PIE X pins σ tg R) E s1 := by
  obtain ⟨its, rv, p, hz⟩ := I1.list hq
  refine wpAny_pyIter_list p.isList ⟨_, [s1.heap.objs.size], _, _, H1, rfl, ?_, turn_list a _, ?_, it_end I1, q⟩
  · exact I1.kept (t' := s1.toks) fun _ _ e => Heap.get?_push_of_some _ e
  · exact ⟨_, Heap.get?_push_size _ rfl, rfl, rfl⟩
theorem it_tup {pins : List (Addr × Obj)} {σ : L2.St} {H1 : Hp} {s1 : Shared} {R : It → Hp → Prop} {E : Value → Shared → Prop} {a : Addr} {xs : List V} (I1 : Inv X pins σ H1 s1) (hq : SqT X.K H1 a xs) (q : R (Itt X.K a) H1) :
    wpAny (model X.prog X.w) X.A (pyIter (.ref a)) (PIE X pins σ tg R) E s1 := by
  obtain ⟨its, rv, p, hz⟩ := I1.tuple hq
  refine wpAny_pyIter_tuple (show s1.heap.IsTuple a its.toArray from p) ⟨_, [s1.heap.objs.size], _, _, H1, rfl, ?_, turn_tuple a _, ?_, it_end I1, q⟩
  · exact I1.kept (t' := s1.toks) fun _ _ e => Heap.get?_push_of_some _ e
  · exact ⟨_, Heap.get?_push_size _ rfl, rfl, rfl⟩
/-- over a list or a tuple -/
theorem pi_seq {l : Expr} {tl : TE} (hl : PE X l tl) : PI X tg l (fun σ H R => tl σ H fun x H1 => ∃ a xs, x = .ref a ∧ ((SqL X.K H1 a xs ∧ R (Itl X.K a) H1) ∨ (SqT X.K H1 a xs ∧ R (Itt X.K a) H1))) := by
  constructor
  intro pins s σ H R I h
  refine thn (hl.run pins s σ H _ I h) fun v s1 out => ?_
  obtain ⟨x, H1, I1, r1, a, xs, rfl, hq⟩ := out
  cases r1
  rcases hq with ⟨h1, q⟩ | ⟨h1, q⟩
  · exact it_lst I1 h1 q
  · exact it_tup I1 h1 q
theorem jok_list {a : Addr} {items : List D} {I : DStore → Prop} (h : ∀ η' μ' S' H', Ext η μ H η' μ' H' → Rp K η' μ' S' H' → I S' → ∃ vs, SqL K H' a vs ∧ RVs K H' η' μ' items vs) : JOk K η μ H (Itl K a) items I := by
  intro i η' μ' S' H' e r g
  obtain ⟨vs, hs, q⟩ := h η' μ' S' H' e r g
  refine ⟨fun hi => ?_, fun hi _ => ⟨vs, hs, by rw [← q.length]; exact hi⟩⟩
  obtain ⟨v, hv, rv⟩ := q.get (List.getElem?_eq_getElem hi)
  refine ⟨⟨vs, v, hs, hv⟩, fun x H'' hy => ?_⟩
  obtain ⟨rfl, f⟩ := hy
  have : x = v := Option.some.inj ((f vs hs).symm.trans hv)
  subst this
  exact ⟨.refl, r, _, List.getElem?_eq_getElem hi, rv⟩
theorem jok_tup {a : Addr} {items : List D} {I : DStore → Prop} (h : ∀ η' μ' S' H', Ext η μ H η' μ' H' → Rp K η' μ' S' H' → I S' → ∃ vs, SqT K H' a vs ∧ RVs K H' η' μ' items vs) : JOk K η μ H (Itt K a) items I := by
  intro i η' μ' S' H' e r g
  obtain ⟨vs, hs, q⟩ := h η' μ' S' H' e r g
  refine ⟨fun hi => ?_, fun hi _ => ⟨vs, hs, by rw [← q.length]; exact hi⟩⟩
  obtain ⟨v, hv, rv⟩ := q.get (List.getElem?_eq_getElem hi)
  refine ⟨⟨vs, v, hs, hv⟩, fun x H'' hy => ?_⟩
  obtain ⟨rfl, f⟩ := hy
  have : x = v := Option.some.inj ((f vs hs).symm.trans hv)
  subst this
  exact ⟨.refl, r, _, List.getElem?_eq_getElem hi, rv⟩
theorem keyD_rv1 (k : L2.Key) : RV K H η μ (keyD k) (kV k) := by
  cases k with
  | inl i => exact .int i
  | inr x => exact .str x
theorem jok_keys {d : Addr} {o : Obj} {kvs : List (List L2.Key × D)} {vs : List (List L2.Key × V)} (h : H d = some (.frz o (.dT vs))) (q : RKs K H η μ kvs vs) : JOk K η μ H (Itkt d o vs) (kvs.map fun p => D.tup (p.1.map keyD)) (fun _ => True) := by
  intro i η' μ' S' H' e r _
  have hd := e.frz _ _ _ h
  have hl := q.length
  refine ⟨fun hi => ?_, fun h1 h2 => ?_⟩
  · rw [List.length_map] at hi
    refine ⟨⟨hd, by omega⟩, fun x H'' hy => ?_⟩
    obtain ⟨rfl, k, v, p, h1, rfl, h3⟩ := hy
    refine ⟨.refl, r, D.tup (k.map keyD), ?_, .tup (.inl (.inl h3)) (keyD_rv k)⟩
    have hk := congrArg (fun l => l[i]?) q.keys
    simp only [List.getElem?_map, h1, Option.map_some, Option.map_eq_some_iff] at hk
    obtain ⟨⟨k', d'⟩, h4, h5⟩ := hk
    simp only at h5
    subst h5
    rw [List.getElem?_map, h4]; rfl
  · rw [List.length_map] at h1
    exact ⟨hd, by omega⟩
theorem jok_items {d : Addr} {o : Obj} {kvs : List (List L2.Key × D)} {vs : List (List L2.Key × V)} (h : H d = some (.frz o (.dT vs))) (q : RKs K H η μ kvs vs) : JOk K η μ H (Itit d o vs) (kvs.map fun p => D.tup [D.tup (p.1.map keyD), p.2]) (fun _ => True) := by
  intro i η' μ' S' H' e r _
  have hd := e.frz _ _ _ h
  have hl := q.length
  refine ⟨fun hi => ?_, fun h1 h2 => ?_⟩
  · rw [List.length_map] at hi
    refine ⟨⟨hd, by omega⟩, fun x H'' hy => ?_⟩
    obtain ⟨T, k, v, p, h1, h3, rfl, hT, rfl⟩ := hy
    have g := grow_new (o := .tup [.ref p, v]) r hT
    obtain ⟨dv, h4, rv⟩ := (q.ext e).get h1
    refine ⟨g, rp_new r hT, D.tup [D.tup (k.map keyD), dv], ?_, ?_⟩
    · rw [List.getElem?_map, h4]; rfl
    · exact .tup (.inl (.inl upd_same)) (.cons (.tup (.inl (.inl (g.tup _ _ h3))) (keyD_rv k)) (.cons (rv.ext g.ext) .nil))
  · rw [List.length_map] at h1
    exact ⟨hd, by omega⟩
theorem jok_kkeys {d : Addr} {o : Obj} {kvs : List (L2.Key × D)} {vs : List (L2.Key × V)} (h : H d = some (.frz o (.dK vs))) (q : RKs K H η μ kvs vs) : JOk K η μ H (Itk d o vs) (kvs.map fun p => keyD p.1) (fun _ => True) := by
  intro i η' μ' S' H' e r _
  have hd := e.frz _ _ _ h
  have hl := q.length
  refine ⟨fun hi => ?_, fun h1 h2 => ?_⟩
  · rw [List.length_map] at hi
    refine ⟨⟨hd, by omega⟩, fun x H'' hy => ?_⟩
    obtain ⟨rfl, k, v, h1, rfl⟩ := hy
    obtain ⟨dv, h4, rv⟩ := q.get h1
    refine ⟨.refl, r, keyD k, ?_, keyD_rv1 k⟩
    rw [List.getElem?_map, h4]; rfl
  · rw [List.length_map] at h1
    exact ⟨hd, by omega⟩
theorem jok_kitems {d : Addr} {o : Obj} {kvs : List (L2.Key × D)} {vs : List (L2.Key × V)} (h : H d = some (.frz o (.dK vs))) (q : RKs K H η μ kvs vs) : JOk K η μ H (Iti d o vs) (kvs.map fun p => D.tup [keyD p.1, p.2]) (fun _ => True) := by
  intro i η' μ' S' H' e r _
  have hd := e.frz _ _ _ h
  have hl := q.length
  refine ⟨fun hi => ?_, fun h1 h2 => ?_⟩
  · rw [List.length_map] at hi
    refine ⟨⟨hd, by omega⟩, fun x H'' hy => ?_⟩
    obtain ⟨T, k, v, h1, rfl, hT, rfl⟩ := hy
    have g := grow_new (o := .tup [kV k, v]) r hT
    obtain ⟨dv, h4, rv⟩ := (q.ext e).get h1
    refine ⟨g, rp_new r hT, D.tup [keyD k, dv], ?_, ?_⟩
    · rw [List.getElem?_map, h4]; rfl
    · exact .tup (.inl (.inl upd_same)) (.cons (keyD_rv1 k) (.cons (rv.ext g.ext) .nil))
  · rw [List.length_map] at h1
    exact ⟨hd, by omega⟩
theorem jok_range {lo hi : Int} {n : Nat} (hn : n = (hi - lo).toNat) : JOk K η μ H (Itr lo n) (rangeD lo hi) (fun _ => True) := by
  intro i η' μ' S' H' e r g
  have hl : (rangeD lo hi).length = n := by simp [rangeD, hn]
  refine ⟨fun h => ⟨by show i < n; omega, fun x H'' hy => ?_⟩, fun h _ => by show n ≤ i; omega⟩
  obtain ⟨rfl, rfl⟩ := hy
  refine ⟨.refl, r, _, ?_, .int _⟩
  unfold rangeD
  rw [List.getElem?_map, List.getElem?_range (by omega)]
  rfl
theorem seq_it (r : Rp K η μ S H) {d : D} {v : V} {R : RI} {RJ : It → Hp → Prop} (rv : RV K H η μ d v) (h : itD S d R) (hJ : ∀ J items I, R items I S → JOk K η μ H J items I → RJ J H) :
    ∃ a xs, v = .ref a ∧ ((SqL K H a xs ∧ RJ (Itl K a) H) ∨ (SqT K H a xs ∧ RJ (Itt K a) H)) := by
  cases rv with
  | tup h1 q1 => exact ⟨_, _, rfl, .inr ⟨h1, hJ _ _ _ h (jok_tup fun η' μ' S' H' e _ _ => ⟨_, SqT.ext e h1, q1.ext e⟩)⟩⟩
  | @lst a xs ds hm hn h1 q1 => exact ⟨_, _, rfl, .inl ⟨.inl (.inl h1), hJ _ _ _ h (jok_list fun η' μ' S' H' e _ _ => ⟨_, .inl (.inl (e.keep _ _ h1 hm hn).1), q1.ext e⟩)⟩⟩
  | scr h1 q1 =>
    have hs : ∀ {η' μ' H'}, Ext η μ H η' μ' H' → SqL K H' _ _ := fun e => h1.elim (fun ⟨o, z⟩ => .inl (.inr ⟨o, e.frz _ _ _ z⟩)) fun z => z _
    exact ⟨_, _, rfl, .inl ⟨hs (Ext.refl (η := η) (μ := μ)), hJ _ _ _ h (jok_list fun η' μ' S' H' e _ _ => ⟨_, hs e, q1.ext e⟩)⟩⟩
  | @ref n a h1 =>
    obtain ⟨xs, e1, h⟩ := h
    obtain ⟨b, hb, vs, e2, q2⟩ := r.cell n _ e1
    rw [h1] at hb; cases hb
    refine ⟨_, _, rfl, .inl ⟨.inl (.inl e2), hJ _ _ _ h (jok_list fun η' μ' S' H' e r' g => ?_)⟩⟩
    obtain ⟨c, hc, ws, e3, q3⟩ := r'.cell n _ g
    obtain ⟨m, rfl⟩ := e.pre
    rw [List.getElem?_append_left (List.getElem?_eq_some_iff.mp h1).1, h1] at hc
    cases hc
    exact ⟨ws, .inl (.inl e3), q3⟩
  | _ => exact h.elim

theorem zip_get {xs ys : List D} {i : Nat} {x y : D} (hx : xs[i]? = some x) (hy : ys[i]? = some y) : (zipD xs ys)[i]? = some (.tup [x, y]) := by
  have : (xs.zip ys)[i]? = some (x, y) := List.getElem?_zip_eq_some.mpr ⟨hx, hy⟩
  simp only [zipD, List.getElem?_map, this, Option.map_some]
theorem zip_len {xs ys : List D} : (zipD xs ys).length = min xs.length ys.length := by simp [zipD]
theorem enum_get {xs : List D} {i : Nat} {x : D} (hx : xs[i]? = some x) : (enumD xs)[i]? = some (.tup [.int i, x]) := by
  simp [enumD, List.getElem?_map, List.getElem?_zipIdx, hx]
theorem enum_len {xs : List D} : (enumD xs).length = xs.length := by simp [enumD]
theorem jok_zipM {k1 k2 : Bool} {a b : Addr} {xs ys : List D} {I : DStore → Prop} (h : ∀ η' μ' S' H', Ext η μ H η' μ' H' → Rp K η' μ' S' H' → I S' → ∃ vs ws, SqA K k1 H' a vs ∧ SqA K k2 H' b ws ∧ RVs K H' η' μ' xs vs ∧ RVs K H' η' μ' ys ws) : JOk K η μ H (ItzM K k1 k2 a b) (zipD xs ys) I := by
  intro i η' μ' S' H' e r g
  obtain ⟨vs, ws, h1, h2, q1, q2⟩ := h η' μ' S' H' e r g
  have l1 := q1.length
  have l2 := q2.length
  rw [zip_len]
  refine ⟨fun hi => ?_, fun hi hi' => ⟨vs, ws, h1, h2, by omega, by omega, by omega⟩⟩
  have hix : i < xs.length := by omega
  have hiy : i < ys.length := by omega
  obtain ⟨v, hv, rv⟩ := q1.get (List.getElem?_eq_getElem hix)
  obtain ⟨w, hw, rw'⟩ := q2.get (List.getElem?_eq_getElem hiy)
  refine ⟨⟨vs, ws, v, w, h1, h2, hv, hw⟩, fun x H'' hy => ?_⟩
  obtain ⟨T, v2, w2, rfl, hT, rfl, f1, f2⟩ := hy
  have e1 : v2 = v := Option.some.inj ((f1 vs h1).symm.trans hv)
  have e2 : w2 = w := Option.some.inj ((f2 ws h2).symm.trans hw)
  subst e1 e2
  exact ⟨grow_new r hT, rp_new r hT, _, zip_get (List.getElem?_eq_getElem hix) (List.getElem?_eq_getElem hiy), rv_new_tup r hT (.cons rv (.cons rw' .nil))⟩
theorem jok_enum {a : Addr} {xs : List D} {I : DStore → Prop} (h : ∀ η' μ' S' H', Ext η μ H η' μ' H' → Rp K η' μ' S' H' → I S' → ∃ vs, SqL K H' a vs ∧ RVs K H' η' μ' xs vs) : JOk K η μ H (Ite K a) (enumD xs) I := by
  intro i η' μ' S' H' e r g
  obtain ⟨vs, h1, q1⟩ := h η' μ' S' H' e r g
  have l1 := q1.length
  rw [enum_len]
  refine ⟨fun hi => ?_, fun hi _ => ⟨vs, h1, by omega⟩⟩
  obtain ⟨v, hv, rv⟩ := q1.get (List.getElem?_eq_getElem hi)
  refine ⟨⟨vs, v, h1, hv⟩, fun x H'' hy => ?_⟩
  obtain ⟨T, v2, rfl, hT, rfl, f1⟩ := hy
  have e1 : v2 = v := Option.some.inj ((f1 vs h1).symm.trans hv)
  subst e1
  exact ⟨grow_new r hT, rp_new r hT, _, enum_get (List.getElem?_eq_getElem hi), rv_new_tup r hT (.cons (.int _) (.cons rv .nil))⟩
theorem jok_rangeC {lo c : Int} {n : Nat} : JOk K η μ H (Itc lo c n) (range3D lo c n) (fun _ => True) := by
  intro i η' μ' S' H' e r g
  have hl : (range3D lo c n).length = n := by simp [range3D]
  refine ⟨fun h => ⟨by show i < n; omega, fun x H'' hy => ?_⟩, fun h _ => by show n ≤ i; omega⟩
  obtain ⟨rfl, rfl⟩ := hy
  refine ⟨.refl, r, _, ?_, .int _⟩
  unfold range3D
  rw [List.getElem?_map, List.getElem?_range (by omega)]
  rfl
theorem sqA_of (r : Rp K η μ S H) {x : D} {v : V} {xs : List D} (rx : RV K H η μ x v) (e : tlOf S x = some xs) : ∃ k a vs, v = .ref a ∧ SqA K k H a vs ∧ RVs K H η μ xs vs ∧
    ∀ η' μ' S' H', Ext η μ H η' μ' H' → Rp K η' μ' S' H' → tlOf S' x = some xs → ∃ vs, SqA K k H' a vs ∧ RVs K H' η' μ' xs vs := by
  by_cases hx : ∃ ys, x = .tup ys
  · obtain ⟨ys, rfl⟩ := hx
    simp only [tlOf, Option.some.injEq] at e
    subst e
    cases rx with
    | tup h1 q1 => exact ⟨true, _, _, rfl, h1, q1, fun η' μ' S' H' e _ _ => ⟨_, SqT.ext e h1, q1.ext e⟩⟩
  · have et : ∀ S', tlOf S' x = lstOf S' x := fun S' => by
      cases x <;> first | rfl | exact absurd ⟨_, rfl⟩ hx
    rw [et] at e
    obtain ⟨a, vs, rfl, ha, qa⟩ := lst_of r rx e
    refine ⟨false, a, vs, rfl, .inl (.inl ha), qa, fun η' μ' S' H' e' r' g => ?_⟩
    rw [et] at g
    obtain ⟨a', vs', ea, ha', qa'⟩ := lst_of r' (rx.ext e') g
    cases ea
    exact ⟨vs', .inl (.inl ha'), qa'⟩
theorem zip_it (r : Rp K η μ S H) {x y : D} {v w : V} {R : RI} {RJ : It → Hp → Prop} (rx : RV K H η μ x v) (ry : RV K H η μ y w) (h : zipP S x y R) (hJ : ∀ J items I, R items I S → JOk K η μ H J items I → RJ J H) :
    ∃ a b k1 k2 xs ys, [v, w] = [V.ref a, V.ref b] ∧ SqA K k1 H a xs ∧ SqA K k2 H b ys ∧ RJ (ItzM K k1 k2 a b) H := by
  have h' : ∃ xs ys I, tlOf S x = some xs ∧ tlOf S y = some ys ∧ R (zipD xs ys) I S ∧ ∀ S', I S' → tlOf S' x = some xs ∧ tlOf S' y = some ys := by
    unfold zipP at h
    split at h
    · exact ⟨_, _, _, rfl, rfl, h, fun _ _ => ⟨rfl, rfl⟩⟩
    · obtain ⟨xs, ys, e1, e2, h⟩ := h
      exact ⟨xs, ys, _, e1, e2, h, fun _ z => z⟩
  obtain ⟨xs, ys, I, e1, e2, hI, hk⟩ := h'
  obtain ⟨k1, a, vs, rfl, ha, qa, fa⟩ := sqA_of r rx e1
  obtain ⟨k2, b, ws, rfl, hb, qb, fb⟩ := sqA_of r ry e2
  refine ⟨a, b, k1, k2, vs, ws, rfl, ha, hb, hJ _ _ _ hI (jok_zipM fun η' μ' S' H' e r' g => ?_)⟩
  obtain ⟨g1, g2⟩ := hk S' g
  obtain ⟨vs', h1, q1⟩ := fa η' μ' S' H' e r' g1
  obtain ⟨ws', h2, q2⟩ := fb η' μ' S' H' e r' g2
  exact ⟨vs', ws', h1, h2, q1, q2⟩
theorem zip3_get {xs ys zs : List D} {i : Nat} {x y z : D} (hx : xs[i]? = some x) (hy : ys[i]? = some y) (hz : zs[i]? = some z) : (zip3D xs ys zs)[i]? = some (.tup [x, y, z]) := by
  have h1 : (xs.zip ys)[i]? = some (x, y) := List.getElem?_zip_eq_some.mpr ⟨hx, hy⟩
  have h2 : ((xs.zip ys).zip zs)[i]? = some ((x, y), z) := List.getElem?_zip_eq_some.mpr ⟨h1, hz⟩
  simp only [zip3D, List.getElem?_map, h2, Option.map_some]
theorem zip3_len {xs ys zs : List D} : (zip3D xs ys zs).length = min (min xs.length ys.length) zs.length := by simp [zip3D]
theorem jok_zipM3 {k1 k2 k3 : Bool} {a b c : Addr} {xs ys zs : List D} {I : DStore → Prop} (h : ∀ η' μ' S' H', Ext η μ H η' μ' H' → Rp K η' μ' S' H' → I S' → ∃ vs ws us, SqA K k1 H' a vs ∧ SqA K k2 H' b ws ∧ SqA K k3 H' c us ∧ RVs K H' η' μ' xs vs ∧ RVs K H' η' μ' ys ws ∧ RVs K H' η' μ' zs us) : JOk K η μ H (ItzM3 K k1 k2 k3 a b c) (zip3D xs ys zs) I := by
  intro i η' μ' S' H' e r g
  obtain ⟨vs, ws, us, h1, h2, h3, q1, q2, q3⟩ := h η' μ' S' H' e r g
  have l1 := q1.length
  have l2 := q2.length
  have l3 := q3.length
  rw [zip3_len]
  refine ⟨fun hi => ?_, fun hi hi' => ⟨vs, ws, us, h1, h2, h3, by omega, by omega, by omega, by omega⟩⟩
  have hix : i < xs.length := by omega
  have hiy : i < ys.length := by omega
  have hiz : i < zs.length := by omega
  obtain ⟨v, hv, rv⟩ := q1.get (List.getElem?_eq_getElem hix)
  obtain ⟨w, hw, rw'⟩ := q2.get (List.getElem?_eq_getElem hiy)
  obtain ⟨u, hu, ru⟩ := q3.get (List.getElem?_eq_getElem hiz)
  refine ⟨⟨vs, ws, us, v, w, u, h1, h2, h3, hv, hw, hu⟩, fun x H'' hy => ?_⟩
  obtain ⟨T, v2, w2, u2, rfl, hT, rfl, f1, f2, f3⟩ := hy
  have e1 : v2 = v := Option.some.inj ((f1 vs h1).symm.trans hv)
  have e2 : w2 = w := Option.some.inj ((f2 ws h2).symm.trans hw)
  have e3 : u2 = u := Option.some.inj ((f3 us h3).symm.trans hu)
  subst e1 e2 e3
  exact ⟨grow_new r hT, rp_new r hT, _, zip3_get (List.getElem?_eq_getElem hix) (List.getElem?_eq_getElem hiy) (List.getElem?_eq_getElem hiz), rv_new_tup r hT (.cons rv (.cons rw' (.cons ru .nil)))⟩
theorem zip3_it (r : Rp K η μ S H) {x y z : D} {v w u : V} {R : RI} {RJ : It → Hp → Prop} (rx : RV K H η μ x v) (ry : RV K H η μ y w) (rz : RV K H η μ z u) (h : zip3P S x y z R) (hJ : ∀ J items I, R items I S → JOk K η μ H J items I → RJ J H) :
    ∃ a b c k1 k2 k3 xs ys zs, [v, w, u] = [V.ref a, V.ref b, V.ref c] ∧ SqA K k1 H a xs ∧ SqA K k2 H b ys ∧ SqA K k3 H c zs ∧ RJ (ItzM3 K k1 k2 k3 a b c) H := by
  obtain ⟨xs, ys, zs, e1, e2, e3, hI⟩ := h
  obtain ⟨k1, a, vs, rfl, ha, qa, fa⟩ := sqA_of r rx e1
  obtain ⟨k2, b, ws, rfl, hb, qb, fb⟩ := sqA_of r ry e2
  obtain ⟨k3, c, us, rfl, hc, qc, fc⟩ := sqA_of r rz e3
  refine ⟨a, b, c, k1, k2, k3, vs, ws, us, rfl, ha, hb, hc, hJ _ _ _ hI (jok_zipM3 fun η' μ' S' H' e r' g => ?_)⟩
  obtain ⟨g1, g2, g3⟩ := g
  obtain ⟨vs', h1, q1⟩ := fa η' μ' S' H' e r' g1
  obtain ⟨ws', h2, q2⟩ := fb η' μ' S' H' e r' g2
  obtain ⟨us', h3, q3⟩ := fc η' μ' S' H' e r' g3
  exact ⟨vs', ws', us', h1, h2, h3, q1, q2, q3⟩
theorem jok_enumT {a : Addr} {xs : List D} {I : DStore → Prop} (h : ∀ η' μ' S' H', Ext η μ H η' μ' H' → Rp K η' μ' S' H' → I S' → ∃ vs, SqT K H' a vs ∧ RVs K H' η' μ' xs vs) : JOk K η μ H (IteT K a) (enumD xs) I := by
  intro i η' μ' S' H' e r g
  obtain ⟨vs, h1, q1⟩ := h η' μ' S' H' e r g
  have l1 := q1.length
  rw [enum_len]
  refine ⟨fun hi => ?_, fun hi _ => ⟨vs, h1, by omega⟩⟩
  obtain ⟨v, hv, rv⟩ := q1.get (List.getElem?_eq_getElem hi)
  refine ⟨⟨vs, v, h1, hv⟩, fun x H'' hy => ?_⟩
  obtain ⟨T, v2, rfl, hT, rfl, f1⟩ := hy
  have e1 : v2 = v := Option.some.inj ((f1 vs h1).symm.trans hv)
  subst e1
  exact ⟨grow_new r hT, rp_new r hT, _, enum_get (List.getElem?_eq_getElem hi), rv_new_tup r hT (.cons (.int _) (.cons rv .nil))⟩
theorem enum_it (r : Rp K η μ S H) {x : D} {v : V} {R : RI} {RJ : It → Hp → Prop} (rx : RV K H η μ x v) (h : enumP S x R) (hJ : ∀ J items I, R items I S → JOk K η μ H J items I → RJ J H) :
    ∃ a xs, [v] = [V.ref a] ∧ ((SqL K H a xs ∧ RJ (Ite K a) H) ∨ (SqT K H a xs ∧ RJ (IteT K a) H)) := by
  unfold enumP at h
  split at h
  · cases rx with
    | tup h1 q1 => exact ⟨_, _, rfl, .inr ⟨h1, hJ _ _ _ h (jok_enumT fun η' μ' S' H' e _ _ => ⟨_, SqT.ext e h1, q1.ext e⟩)⟩⟩
  · obtain ⟨xs, e1, h⟩ := h
    obtain ⟨a, vs, rfl, ha, qa⟩ := lst_of r rx e1
    refine ⟨a, vs, rfl, .inl ⟨.inl (.inl ha), hJ _ _ _ h (jok_enum fun η' μ' S' H' e r' g => ?_)⟩⟩
    obtain ⟨a', vs', ea, ha', qa'⟩ := lst_of r' (rx.ext e) g
    cases ea
    exact ⟨vs', .inl (.inl ha'), qa'⟩
def tyS : TyB → String
  | .int => "int" | .bool => "bool" | .str => "str" | .tuple => "tuple" | .list => "list"
/-- what isinstance asks -/
theorem ty_of (r : Rp K η μ S H) {x : D} {v : V} {t : TyB} {Q : QE} (rx : RV K H η μ x v) (h : isiP t x S Q) : ∃ ty b, TyX K H v (.type ty) ∧ kitB ty (tyS t) = some b ∧ Q (.bl b) S := by
  cases rx with
  | non => exact ⟨"NoneType", _, .base .non, by clear h; cases t <;> (simp only [isiD]; decide +kernel), h⟩
  | bl b => exact ⟨"bool", _, .base (.bl b), by clear h; cases t <;> (simp only [isiD]; decide +kernel), h⟩
  | int b => exact ⟨"int", _, .base (.int b), by clear h; cases t <;> (simp only [isiD]; decide +kernel), h⟩
  | str b => exact ⟨"str", _, .base (.str b), by clear h; cases t <;> (simp only [isiD]; decide +kernel), h⟩
  | @tup a0 xs0 ds0 h1 q1 =>
    refine ⟨"tuple", isiD t (.tup ds0), ?_, by clear h; cases t <;> (simp only [isiD]; decide +kernel), h⟩
    rcases h1 with (h1 | ⟨o, h1⟩) | ⟨o, its, n, h1, h2, _⟩
    · exact .base (.tup h1)
    · exact .fTuple h1
    · exact .kTuple h1 h2
  | @lst a0 xs0 ds0 hm hn h1 q1 => exact ⟨"list", isiD t (.lst ds0), .base (.lst h1), by clear h; cases t <;> (simp only [isiD]; decide +kernel), h⟩
  | scr h1 q1 => exact h.elim
  | @key a0 ks0 h1 => exact ⟨"tuple", isiD t (.key ks0), .base (.tup h1), by clear h; cases t <;> (simp only [isiD]; decide +kernel), h⟩
  | @ref n a h1 =>
    obtain ⟨c, hn, h⟩ := h
    obtain ⟨b, hb, hc⟩ := r.cell n _ hn
    rw [h1] at hb; cases hb
    cases c with
    | lst xs =>
      obtain ⟨vs, e2, q2⟩ := hc
      exact ⟨"list", _, .base (.lst e2), by clear h; cases t <;> (simp only [isiC]; decide +kernel), h⟩
    | dct xs =>
      obtain ⟨vs, e2, q2⟩ := hc
      exact ⟨"dict", _, .base (.dT e2), by clear h; cases t <;> (simp only [isiC]; decide +kernel), h⟩
    | dkk xs =>
      obtain ⟨vs, e2, q2⟩ := hc
      exact ⟨"dict", _, .base (.dK e2), by clear h; cases t <;> (simp only [isiC]; decide +kernel), h⟩
    | dkl xs => exact h.elim
    | dlk xs =>
      exact h.elim
end

/-! ### slots of a comprehension -/
theorem wipe_get (σ : L2.St) : ∀ (vs : List Nat) (i : Nat), (wipe σ vs)[i]? = if i ∈ vs then (σ[i]?).map (fun _ => none) else σ[i]?
  | [], i => by simp [wipe]
  | v :: vs, i => by
    have ih := wipe_get σ vs i
    have hl := wipe_length σ vs
    by_cases h : v = i
    · subst h
      by_cases hv : v < σ.length
      · simp [wipe, List.getElem?_set_self (show v < (wipe σ vs).length by omega), List.getElem?_eq_getElem hv]
      · have : σ[v]? = none := List.getElem?_eq_none_iff.mpr (by omega)
        simp [wipe, this]
        omega
    · have h' : ¬ i = v := fun z => h z.symm
      simp only [wipe, List.getElem?_set_ne h, ih, List.mem_cons, h', false_or]
theorem wipe_ext {σ τ : L2.St} {vs : List Nat} (hl : τ.length = σ.length) (h : ∀ i, i ∉ vs → τ[i]? = (wipe σ vs)[i]?) : wipe τ vs = wipe σ vs := by
  apply List.ext_getElem?
  intro i
  rw [wipe_get, wipe_get]
  by_cases hi : i ∈ vs
  · rw [if_pos hi, if_pos hi]
    by_cases hv : i < σ.length
    · rw [List.getElem?_eq_getElem hv, List.getElem?_eq_getElem (by omega)]; rfl
    · rw [List.getElem?_eq_none_iff.mpr (by omega), List.getElem?_eq_none_iff.mpr (by omega)]
  · rw [if_neg hi, if_neg hi]
    have := h i hi
    rw [wipe_get, if_neg hi] at this
    exact this
theorem re_wipe {K : PySem.W.Frag} {H : Hp} {η μ : List Addr} {ρ : DEnv} {σ : L2.St} (r : RE K H η μ ρ σ) : ∀ vs, RE K H η μ (wipeD ρ vs) (wipe σ vs)
  | [] => r
  | v :: vs => (re_wipe r vs).del v

/-! ### simple targets -/
def CT.simple : CT → Bool
  | .name _ => true
  | .tup ts => simples ts
  | .sub _ _ => false
  | .dsub _ _ => false
  | .ksub _ _ => false
  | .kput _ _ => false
where simples : List CT → Bool
  | [] => true
  | t :: ts => CT.simple t && simples ts
def CT.slots : CT → List Nat
  | .name i => [i]
  | .tup ts => slotss ts
  | .sub _ _ => []
  | .dsub _ _ => []
  | .ksub _ _ => []
  | .kput _ _ => []
where slotss : List CT → List Nat
  | [] => []
  | t :: ts => CT.slots t ++ slotss ts
section
variable (K : PySem.W.Frag)
mutual
def gS : CT → TG
  | .name i => gName i
  | .tup ts => fun v σ H Q => gTup K ts.length (gSs ts) v σ H Q ∨ gLst K ts.length (gSs ts) v σ H Q
  | .sub _ _ => fun _ _ _ _ => False
  | .dsub _ _ => fun _ _ _ _ => False
  | .ksub _ _ => fun _ _ _ _ => False
  | .kput _ _ => fun _ _ _ _ => False
def gSs : List CT → TGs
  | [] => gNil
  | t :: ts => gCons (gS t) (gSs ts)
end
end
section
variable {K : PySem.W.Frag} {η μ : List Addr} {S : DStore} {H : Hp} {G : Fns}
mutual
theorem gS_run : ∀ (t : CT) {d : D} {v : V} {ρ : DEnv} {σ : L2.St} {QD : DEnv → DStore → Prop} {Q : L2.St → Hp → Prop}, CT.simple t = true → Rp K η μ S H → RE K H η μ ρ σ → RV K H η μ d v → wpG G t d ρ S QD →
    (∀ ρ' σ', RE K H η μ ρ' σ' → σ'.length = σ.length → (∀ i, i ∉ CT.slots t → σ'[i]? = σ[i]?) → QD ρ' S → Q σ' H) → gS K t v σ H Q
  | .name i, d, v, ρ, σ, QD, Q, _, hR, hE, rv, h, hQ => by
    simp only [wpG] at h
    refine hQ _ _ (hE.set rv i) (by simp) (fun j hj => ?_) h
    rw [List.getElem?_set_ne (fun z => hj (by simp [CT.slots, z]))]
  | .tup ts, d, v, ρ, σ, QD, Q, hs, hR, hE, rv, h, hQ => by
    simp only [wpG] at h
    unfold unpD at h
    split at h
    · obtain ⟨hl, h⟩ := h
      cases rv with
      | tup h1 q1 => exact .inl ⟨_, _, rfl, h1, by rw [← q1.length]; exact hl, gSs_run ts hs hR hE q1 h hl hQ⟩
    · obtain ⟨xs, e1, hl, h⟩ := h
      obtain ⟨a, vs, rfl, ha, qa⟩ := lst_of hR rv e1
      exact .inr ⟨_, _, rfl, .inl (.inl ha), by rw [← qa.length]; exact hl, gSs_run ts hs hR hE qa h hl hQ⟩
  | .sub _ _, _, _, _, _, _, _, hs, _, _, _, _, _ => by simp [CT.simple] at hs
  | .dsub _ _, _, _, _, _, _, _, hs, _, _, _, _, _ => by simp [CT.simple] at hs
  | .ksub _ _, _, _, _, _, _, _, hs, _, _, _, _, _ => by simp [CT.simple] at hs
  | .kput _ _, _, _, _, _, _, _, hs, _, _, _, _, _ => by simp [CT.simple] at hs
theorem gSs_run : ∀ (ts : List CT) {ds : List D} {vs : List V} {ρ : DEnv} {σ : L2.St} {QD : DEnv → DStore → Prop} {Q : L2.St → Hp → Prop}, CT.simple.simples ts = true → Rp K η μ S H → RE K H η μ ρ σ → RVs K H η μ ds vs → wpGs G ts ds ρ S QD → ds.length = ts.length →
    (∀ ρ' σ', RE K H η μ ρ' σ' → σ'.length = σ.length → (∀ i, i ∉ CT.slots.slotss ts → σ'[i]? = σ[i]?) → QD ρ' S → Q σ' H) → gSs K ts vs σ H Q
  | [], ds, vs, ρ, σ, QD, Q, _, hR, hE, rv, h, hl, hQ => by
    have : ds = [] := List.eq_nil_of_length_eq_zero hl
    subst this
    cases rv
    simp only [wpGs] at h
    exact ⟨rfl, hQ _ _ hE rfl (fun _ _ => rfl) h⟩
  | t :: ts, ds, vs, ρ, σ, QD, Q, hs, hR, hE, rv, h, hl, hQ => by
    simp only [wpGs] at h
    obtain ⟨d, r, rfl, h⟩ := h
    simp only [CT.simple.simples, Bool.and_eq_true] at hs
    cases rv with
    | cons a b =>
      refine ⟨_, _, rfl, gS_run t hs.1 hR hE a h fun ρ1 σ1 e1 l1 k1 q1 => ?_⟩
      refine gSs_run ts hs.2 hR e1 b q1 (by simpa using hl) fun ρ2 σ2 e2 l2 k2 q2 => hQ _ _ e2 (l2.trans l1) (fun i hi => ?_) q2
      simp only [CT.slots.slotss, List.mem_append, not_or] at hi
      rw [k2 i hi.2, k1 i hi.1]
end
end
section
variable {K : PySem.W.Frag} {η μ : List Addr} {S : DStore}
theorem grow_pairs : ∀ (xs ys : List D) (vs us : List V) (H : Hp) (QV : List V → Hp → Prop), Rp K η μ S H → RVs K H η μ xs vs → RVs K H η μ ys us → (∀ ws H', Grow μ H μ H' → Rp K η μ S H' → RVs K H' η μ (zipD xs ys) ws → QV ws H') → growT (vs.zip us) H QV
  | _, _, _, _, H, QV, r, .nil, _, h => h [] H .refl r .nil
  | _, _, _, _, H, QV, r, .cons _ _, .nil, h => h [] H .refl r .nil
  | _, _, _, _, H, QV, r, .cons rx rxs, .cons ry rys, h => by
    intro q hq
    exact grow_pairs _ _ _ _ _ _ (rp_new r hq) (rxs.ext (grow_new r hq).ext) (rys.ext (grow_new r hq).ext) fun ws H' g' r' rw' => h _ H' ((grow_new r hq).trans g') r' (.cons ((rv_new_tup r hq (.cons rx (.cons ry .nil))).ext g'.ext) rw')
theorem listZip_of {H : Hp} (r : Rp K η μ S H) {x y : D} {v w : V} {m : Bool} {QD : QE} {Q : VK} (rx : RV K H η μ x v) (ry : RV K H η μ y w) (h : ∃ xs ys, lstOf S x = some xs ∧ lstOf S y = some ys ∧ (xs.zip ys).length ≤ sizeLine ∧ newL m (zipD xs ys) S QD)
    (hQ : ∀ v H', Post K η μ H QD v H' → Q v H') : ∃ a b xs ys, [v, w] = [V.ref a, V.ref b] ∧ SqA K false H a xs ∧ SqA K false H b ys ∧ (xs.zip ys).length ≤ sizeLine ∧ growT (xs.zip ys) H fun us H2 => ∀ q, H2 q = none → Q (.ref q) (upd H2 q (.lst us)) := by
  obtain ⟨xs, ys, e1, e2, hl, hn⟩ := h
  obtain ⟨a, vs, rfl, ha, ra⟩ := lst_of r rx e1
  obtain ⟨b, us, rfl, hb, rb⟩ := lst_of r ry e2
  have l1 := ra.length
  have l2 := rb.length
  refine ⟨a, b, vs, us, rfl, .inl (.inl ha), .inl (.inl hb), by rw [List.length_zip] at hl ⊢; omega, grow_pairs xs ys vs us H _ r ra rb fun ws H' g r' rw' q hq => hQ _ _ ?_⟩
  exact (new_lst r' rw' hn q hq).from g
end
end DL

namespace DL
open PySem PySem.Spec PyProof.Rows L2
/-! ### the look: a core is that of a text -/
structure FI where
  name : Str
  ps : List Str
  kws : List (List Str × List Nat)
  /-- has parameters that come by names alone -/
  ko : Bool
structure Tb where
  fns : List FI
  gls : List Str
  bis : List Str
/-- the scope, and the one whose cells are one's own -/
structure SS where
  s : Scope
  o : Scope
def visB (sc : SS) (x : Str) : Bool := match sc.s.names.lookup x with
  | some .local | some .cell | some .free => true
  | _ => false
def locB (sc : SS) (x : Str) : Bool := match sc.s.names.lookup x with
  | some .local => true
  | some .cell => sc.o.names.lookup x == some .cell
  | _ => false
def glB (sc : SS) (x : Str) : Bool := match sc.s.names.lookup x with
  | some .globalImplicit => true
  | _ => false
def pureB (sc : SS) (x : Str) : Bool := match sc.s.names.lookup x with
  | some .local => true
  | _ => false
def notDbg (x : Str) : Bool := !(x == ("__debug__" : Str)) && !(x == ("__classdict__" : Str))
def TyB.nm : TyB → Str
  | .int => "int" | .bool => "bool" | .str => "str" | .tuple => "tuple" | .list => "list"
/-- walks that make pairs want a target that takes them apart -/
def CI.pairs : CI → Bool
  | .enum _ => true
  | .zip2 _ _ => true
  | .zip3 _ _ _ => true
  | .items _ => true
  | .kitems _ => true
  | _ => false
def isTupE : Expr → Bool
  | .Tuple .. => true
  | _ => false
def okC : CC → Const → Bool
  | .non, .none => true
  | .bl b, .bool c => b == c
  | .int i, .int j => i == j
  | .str x, .str y => x == y
  | _, _ => false
def notSl : Expr → Bool
  | .Slice .. => false
  | _ => true
def notCall : Expr → Bool
  | .Call .. => false
  | _ => true
def notComp : Expr → Bool
  | .ListComp .. | .SetComp .. | .DictComp .. => false
  | _ => true
def notNm : Expr → Bool
  | .Name .. => false
  | _ => true
def kwNames : List Keyword → List (Option Str)
  | [] => []
  | ⟨n, _, _⟩ :: r => n :: kwNames r
def swN (sc : SS) (ts vs : List Expr) : Option (Option (List Str)) :=
  if !(ts.length == 2 || ts.length == 3) || vs.length != ts.length then some none
  else if vs.any (fun | .Starred .. => true | _ => false) then some none
  else
    let line := (ts.head?.map (·.pos.line)).getD 0
    let names := ts.filterMap fun
      | .Name id pos => if sc.s.names.lookup id == some .local && pos.line == line then some id else none
      | _ => none
    if names.length != ts.length || names.eraseDups.length != names.length then some none
    else if vs.all (foldedForSure 8) then some none
    else if vs.all (constantsAlone 8) then none
    else some (some names)
/-- no exchange of stores -/
def noSwap (sc : SS) : Expr → Expr → Bool
  | .Tuple ts _ _, .Tuple vs _ _ => match swN sc ts vs with
    | some none => true
    | _ => false
  | .List _ _, .Tuple _ _ _ => false
  | _, _ => true
section
variable (T : Tb) (N : List Str)
mutual
def okE (sc : SS) : CE → Expr → Bool
  | .var i, .Name x _ => visB sc x && (N[i]? == some x) && notDbg x
  | .con c, .Constant k _ _ => okC c k
  | .glo j, .Name x _ => glB sc x && (T.gls[j]? == some x) && notDbg x
  | .bin op _ a b, .BinOp a' op' b' _ => op == op' && okE sc a a' && okE sc b b'
  | .neg a, .UnaryOp .USub a' _ => okE sc a a'
  | .cmp op a b, .Compare a' [op'] [b'] _ => op == op' && okE sc a a' && okE sc b b'
  | .chain op1 op2 a b c, .Compare a' [o1, o2] [b', c'] _ => op1 == o1 && op2 == o2 && okE sc a a' && okE sc b b' && okE sc c c'
  | .and_ a b, .BoolOp .And (a' :: b' :: r) p => okE sc a a' && (match r with
      | [] => okE sc b b'
      | c' :: r' => okE sc b (.BoolOp .And (b' :: c' :: r') p))
  | .or_ a b, .BoolOp .Or (a' :: b' :: r) p => okE sc a a' && (match r with
      | [] => okE sc b b'
      | c' :: r' => okE sc b (.BoolOp .Or (b' :: c' :: r') p))
  | .not_ a, .UnaryOp .Not a' _ => okE sc a a'
  | .ite t a b, .IfExp t' a' b' _ => okB sc t t' && okE sc a a' && okE sc b b'
  | .tup es, .Tuple es' _ _ => okEs sc es es' && es.length ≤ 1000
  | .lst _ es, .List es' _ => okEs sc es es' && es.length ≤ 1000
  | .ix a i, .Subscript a' i' _ => okE sc a a' && okE sc i i' && notSl i'
  | .sl _ a lo hi, .Subscript a' (.Slice lo' hi' none _) _ => okE sc a a' && okO sc lo lo' && okO sc hi hi'
  | .call j es, .Call (.Name x _) es' [] _ => glB sc x && notDbg x && okEs sc es es' && (match T.fns[j]? with
      | some i => i.name == x && !i.ko
      | none => false)
  | .callK j es kes perm, .Call (.Name x _) es' kws _ => glB sc x && notDbg x && okEs sc es es' && okKs sc kes kws && (match T.fns[j]? with
      | some i => i.name == x && i.kws.any (fun p => p.1.map some == kwNames kws && p.2 == perm)
      | none => false)
  | .bi b _ es, .Call (.Name x _) (e' :: es') [] _ => glB sc x && (b.name == x) && T.bis.contains x && okEs sc es (e' :: es')
  | .tindex j e, .Call (.Attribute (.Name x _) m ap) [e'] [] cp => m == ("index" : Str) && (ap.endLine == cp.line) && (glB sc x && (T.gls[j]? == some x) && notDbg x) && okE sc e e'
  | .isi t a, .Call (.Name x _) [a', .Name y _] [] _ => x == ("isinstance" : Str) && glB sc x && T.bis.contains x && y == t.nm && glB sc y && T.bis.contains y && okE sc a a'
  | .dnew, .Dict [] [] _ => true
  | .dnewK, .Dict [] [] _ => true
  | .dnew1 es v, .Dict [some (.Tuple es' _ _)] [v'] _ => okEs sc es es' && decide (es.length ≤ 1000) && okE sc v v'
  | .ktup es, .Tuple es' _ _ => okEs sc es es' && es.length ≤ 1000
  | .lrg _ a b, .Call (.Name x _) [.Call (.Name y _) [a', b'] [] _] [] _ => x == ("list" : Str) && glB sc x && T.bis.contains x && y == ("range" : Str) && glB sc y && T.bis.contains y && okE sc a a' && okE sc b b'
  | .kix a i, .Subscript a' i' _ => okE sc a a' && okE sc i i' && notSl i'
  | .kget a i x, .Call (.Attribute o m ap) [i', x'] [] cp => m == ("get" : Str) && (ap.endLine == cp.line) && okE sc a o && okE sc i i' && okE sc x x' && notCall o
  | .dcomp key val tg it own, .DictComp key' val' [⟨tg', it', [], 0⟩] scope _ => blkC N sc.s scope (own.map fun i => (N.getD i "", i)) && okE ⟨relS scope sc.s, scope⟩ key key' && okE ⟨relS scope sc.s, scope⟩ val val' && okT ⟨relS scope sc.s, scope⟩ tg tg' && tg.simple && tg.slots.all (own.contains ·) && okI sc it it' && (!it.pairs || isTupE tg')
  | .dlit ks es, .Dict keys values _ => okDs sc ks es keys values && decide (ks ≠ []) && decide (ks.length ≤ 15)
  | .popE a, .Call (.Attribute o m ap) [] [] cp => m == ("pop" : Str) && (ap.endLine == cp.line) && okE sc a o && notCall o
  | .lz _ a b, .Call (.Name x _) [.Call (.Name y _) [a', b'] [] _] [] _ => x == ("list" : Str) && glB sc x && T.bis.contains x && y == ("zip" : Str) && glB sc y && T.bis.contains y && okE sc a a' && okE sc b b'
  | .rev a, .Subscript a' (.Slice none none (some (.UnaryOp .USub (.Constant (.int 1) _ _) _)) _) _ => okE sc a a'
  | .dget2 a es x, .Call (.Attribute o m ap) [.Tuple es' _ _, x'] [] cp => m == ("get" : Str) && (ap.endLine == cp.line) && okE sc a o && okEs sc es es' && decide (es.length ≤ 1000) && okE sc x x' && notCall o
  | .lc2 _ elt tg it tg1 it1 own own1, .ListComp elt' [⟨tg', it', [], 0⟩, ⟨tg1', it1', [], 0⟩] scope _ => blkC N sc.s scope (own.map fun i => (N.getD i "", i)) && okE ⟨relS scope sc.s, scope⟩ elt elt' && okT ⟨relS scope sc.s, scope⟩ tg tg' && tg.simple && tg.slots.all (own.contains ·) && okI sc it it' && (!it.pairs || isTupE tg') && okT ⟨relS scope sc.s, scope⟩ tg1 tg1' && tg1.simple && tg1.slots.all (own1.contains ·) && okI ⟨relS scope sc.s, scope⟩ it1 it1' && (!it1.pairs || isTupE tg1') && own1.all (own.contains ·)
  | .lc _ elt tg it ifs own, .ListComp elt' [⟨tg', it', ifs', 0⟩] scope _ => blkC N sc.s scope (own.map fun i => (N.getD i "", i)) && okE ⟨relS scope sc.s, scope⟩ elt elt' && okT ⟨relS scope sc.s, scope⟩ tg tg' && tg.simple && tg.slots.all (own.contains ·) && okI sc it it' && okBs ⟨relS scope sc.s, scope⟩ ifs ifs' && decide (ifs.length ≤ 1) && (!it.pairs || isTupE tg')
  | _, _ => false
def okEs (sc : SS) : List CE → List Expr → Bool
  | [], [] => true
  | e :: es, e' :: es' => okE sc e e' && okEs sc es es'
  | _, _ => false
def okDs (sc : SS) : List Str → List CE → List (Option Expr) → List Expr → Bool
  | [], [], [], [] => true
  | k :: ks, e :: es, some (.Constant (.str k') _ _) :: keys, e' :: es' => k == k' && okE sc e e' && okDs sc ks es keys es'
  | _, _, _, _ => false
def okKs (sc : SS) : List CE → List Keyword → Bool
  | [], [] => true
  | e :: es, ⟨n, e', _⟩ :: es' => n.isSome && okE sc e e' && okKs sc es es'
  | _, _ => false
def okO (sc : SS) : CO → Option Expr → Bool
  | .no, none => true
  | .yes e, some e' => okE sc e e'
  | _, _ => false
def okB (sc : SS) : CB → Expr → Bool
  | .cand a b, .BoolOp .And (a' :: b' :: r) p => okB sc a a' && (match r with
      | [] => okB sc b b'
      | c' :: r' => okB sc b (.BoolOp .And (b' :: c' :: r') p))
  | .cor a b, .BoolOp .Or (a' :: b' :: r) p => okB sc a a' && (match r with
      | [] => okB sc b b'
      | c' :: r' => okB sc b (.BoolOp .Or (b' :: c' :: r') p))
  | .cnot a, .UnaryOp .Not a' _ => okB sc a a'
  | .ccmp op a b, .Compare a' [op'] [b'] _ => op == op' && okE sc a a' && okE sc b b'
  | .cchain op1 op2 a b c, .Compare a' [o1, o2] [b', c'] _ => op1 == o1 && op2 == o2 && okE sc a a' && okE sc b b' && okE sc c c'
  | .cnil a b, .Compare a' [.NotEq] [b'] _ => okE sc a a' && okE sc b b'
  | .cval e, .Name x p => okE sc e (.Name x p)
  | .cval e, .Call f as ks p => okE sc e (.Call f as ks p)
  | .cval e, .Subscript a i p => okE sc e (.Subscript a i p)
  | .cval e, .Constant c k p => okE sc e (.Constant c k p)
  | _, _ => false
def okBs (sc : SS) : List CB → List Expr → Bool
  | [], [] => true
  | e :: es, e' :: es' => okB sc e e' && okBs sc es es'
  | _, _ => false
def okT (sc : SS) : CT → Expr → Bool
  | .name i, .Name x _ => locB sc x && (N[i]? == some x)
  | .tup ts, .Tuple ts' _ _ => okTs sc ts ts'
  | .sub a i, .Subscript a' i' _ => okE sc a a' && okE sc i i' && notSl i'
  | .ksub a i, .Subscript a' i' _ => okE sc a a' && okE sc i i' && notSl i'
  | .kput a i, .Subscript a' i' _ => okE sc a a' && okE sc i i' && notSl i'
  | .dsub a es, .Subscript a' (.Tuple es' _ _) _ => okE sc a a' && okEs sc es es' && decide (es.length ≤ 1000)
  | _, _ => false
def okTs (sc : SS) : List CT → List Expr → Bool
  | [], [] => true
  | e :: es, e' :: es' => okT sc e e' && okTs sc es es'
  | _, _ => false
def okI (sc : SS) : CI → Expr → Bool
  | .seq e, e' => okE sc e e'
  | .range1 a, .Call (.Name x _) [a'] [] _ => x == ("range" : Str) && glB sc x && T.bis.contains x && okE sc a a'
  | .range2 a b, .Call (.Name x _) [a', b'] [] _ => x == ("range" : Str) && glB sc x && T.bis.contains x && okE sc a a' && okE sc b b'
  | .range3 a b c, .Call (.Name x _) [a', b', c'] [] _ => x == ("range" : Str) && glB sc x && T.bis.contains x && okE sc a a' && okE sc b b' && okE sc c c'
  | .enum a, .Call (.Name x _) [a'] [] _ => x == ("enumerate" : Str) && glB sc x && T.bis.contains x && okE sc a a'
  | .zip3 a b c, .Call (.Name x _) [a', b', c'] [] _ => x == ("zip" : Str) && glB sc x && T.bis.contains x && okE sc a a' && okE sc b b' && okE sc c c'
  | .zip2 a b, .Call (.Name x _) [a', b'] [] _ => x == ("zip" : Str) && glB sc x && T.bis.contains x && okE sc a a' && okE sc b b'
  | .keys e, e' => okE sc e e'
  | .items e, .Call (.Attribute o m ap) [] [] cp => m == ("items" : Str) && (ap.endLine == cp.line) && okE sc e o && notCall o
  | .kkeys e, e' => okE sc e e'
  | .kitems e, .Call (.Attribute o m ap) [] [] cp => m == ("items" : Str) && (ap.endLine == cp.line) && okE sc e o && notCall o
  | _, _ => false
end
mutual
def okS (sc : SS) : CS → Stmt → Bool
  | .expr e, .Expr e' _ => okE T N sc e e' && notComp e'
  | .ret e, .Return (some e') _ => okE T N sc e e'
  | .retN, .Return none _ => true
  | .pass, .Pass _ => true
  | .brk, .Break _ => true
  | .cont, .Continue _ => true
  | .never, _ => true
  | .asg t e, .Assign [t'] e' _ => okT T N sc t t' && okE T N sc e e' && (notComp e' || notNm t') && noSwap sc t' e' && (t.simple || match t with
      | .sub _ _ => true
      | .dsub _ _ => true
      | .ksub _ _ => true
      | .kput _ _ => true
      | .tup [.dsub _ _, .dsub _ _, .dsub _ _] => true
      | _ => false)
  | .par2 i j a b, .Assign [.Tuple [.Name x px, .Name y py] kt pt] (.Tuple [a', b'] k2 p2) _ => pureB sc x && pureB sc y && (N[i]? == some x) && (N[j]? == some y) && decide (i ≠ j) && okE T N sc a a' && okE T N sc b b' && (swN sc [.Name x px, .Name y py] [a', b'] == some (some [x, y]))
  | .par3 i j k a b c, .Assign [.Tuple [.Name x px, .Name y py, .Name z pz] kt pt] (.Tuple [a', b', c'] k2 p2) _ => pureB sc x && pureB sc y && pureB sc z && (N[i]? == some x) && (N[j]? == some y) && (N[k]? == some z) && decide (i ≠ j) && decide (i ≠ k) && decide (j ≠ k) &&
      okE T N sc a a' && okE T N sc b b' && okE T N sc c c' && (swN sc [.Name x px, .Name y py, .Name z pz] [a', b', c'] == some (some [x, y, z]))
  | .setLc i e, .Assign [.Name y py] (.ListComp elt' gs scope pos) _ => (match e with
      | .lc .. => true
      | _ => false) && okE T N sc e (.ListComp elt' gs scope pos) && pureB sc y && (N[i]? == some y) && (py.line == pos.line) && !(scope.names.any fun (n, k) => n == y && (k == .local || k == .cell))
  | .setLc i e, .Assign [.Name y py] (.DictComp key' val' gs scope pos) _ => (match e with
      | .dcomp .. => true
      | _ => false) && okE T N sc e (.DictComp key' val' gs scope pos) && pureB sc y && (N[i]? == some y) && (py.line == pos.line) && !(scope.names.any fun (n, k) => n == y && (k == .local || k == .cell))
  | .aug i op e, .AugAssign (.Name x _) op' e' _ => op == op' && locB sc x && (N[i]? == some x) && okE T N sc e e'
  | .append a e, .Expr (.Call (.Attribute o m ap) [e'] [] cp) _ => m == ("append" : Str) && (ap.endLine == cp.line) && okE T N sc a o && okE T N sc e e' && notCall o
  | .extend a e, .Expr (.Call (.Attribute o m ap) [e'] [] cp) _ => m == ("extend" : Str) && (ap.endLine == cp.line) && okE T N sc a o && okE T N sc e e' && notCall o
  | .popS a, .Expr (.Call (.Attribute o m ap) [] [] cp) _ => m == ("pop" : Str) && (ap.endLine == cp.line) && okE T N sc a o && notCall o
  | .if_ c a b, .If c' a' b' _ => okB T N sc c c' && okSs sc a a' && okSs sc b b'
  | .while_ c b, .While c' b' [] _ => okB T N sc c c' && okSs sc b b'
  | .for_ t it b, .For t' it' b' [] _ => okT T N sc t t' && t.simple && okI T N sc it it' && okSs sc b b' && (!it.pairs || isTupE t')
  | .lock s, st => okS sc s st
  | .lockK s, st => okS sc s st
  | _, _ => false
def okSs (sc : SS) : List CS → List Stmt → Bool
  | [], [] => true
  | e :: es, e' :: es' => okS sc e e' && okSs sc es es'
  | _, _ => false
end
end
end DL

namespace DL
open PySem PySem.Spec PyProof.Rows L2
def spOf (K : PySem.W.Frag) (sp : List D → DStore → QE → Prop) : List V → Hp → VK → Prop := fun vs H Q => ∃ η μ S ds QD, Rp K η μ S H ∧ RVs K H η μ ds vs ∧ sp ds S QD ∧ ∀ v H', Post K η μ H QD v H' → Q v H'
/-- arguments by names, put at their places -/
def gK {α : Type} (d : α) (n : Nat) (perm : List Nat) (us ws : List α) : List α := if ws.length = n then us ++ perm.map (fun i => ws.getD i d) else []
structure Tab (P : Program) (w : World) (K : PySem.W.Frag) (mg : Str → Option Value) (base : Heap) (k : Nat) (T : Tb) (G : Fns) : Prop where
  fn : ∀ (j : Nat) (i : FI), T.fns[j]? = some i → ∃ f fd, FnG P w K mg base k f fd i.ps (spOf K (G.fn j)) ∧ mg i.name = some (.ref f) ∧ PySem.W.keepIn K (.ref f) = true ∧ (i.ko = false → KBinds K fd i.ps [] (fun us _ => us) (fun vs _ => vs)) ∧
    ∀ p ∈ i.kws, KBinds K fd i.ps p.1 (gK .none p.1.length p.2) (gK .non p.1.length p.2)
  gl : ∀ (j : Nat) (x : Str), T.gls[j]? = some x → ∃ u v, mg x = some u ∧ RelV v u ∧ (∀ H η μ, RV K H η μ (G.gl j) v) ∧ ∀ a, v = .ref a → ∃ o, K.lookup a = some o ∧ o.cls = .type "tuple" ∧ o.dict = none
  bi : ∀ x ∈ T.bis, mg x = none
structure Here (T : Tb) (G : Fns) (k : Nat) (N : List Str) (X : Cx) (sc : SS) : Prop where
  tab : Tab X.prog X.w X.K X.mg X.base k T G
  nm : X.N = N
  nd : N.Nodup
  scp : X.env.scope = sc.s
  kind : sc.s.kind = .function
  calm : X.calm = true
  room : Room k X.A
  gd : X.A.guards = some []
  xe : X.xe = fun _ _ => False
  fn : ∀ x, sc.o.names.lookup x = some .cell → X.fn x = true
section
variable {T : Tb} {G : Fns} {k : Nat} {N : List Str} {X : Cx} {sc : SS}
theorem vis_of {x : Str} (h : visB sc x = true) : Vis sc.s x := by
  unfold visB at h; unfold Vis
  split at h <;> simp_all
theorem loc_of {x : Str} (h : locB sc x = true) : L2.Loc sc.s x ∧ (sc.o.names.lookup x = some .cell ∨ sc.s.names.lookup x = some .local) := by
  unfold locB at h; unfold L2.Loc
  split at h <;> simp_all
theorem gl_of {x : Str} (hx : Here T G k N X sc) (h : glB sc x = true) : Gl X x := by
  unfold glB at h
  show X.env.scope.names.lookup x = some .globalImplicit
  rw [hx.scp]
  split at h <;> simp_all
theorem pure_of {x : Str} (h : pureB sc x = true) : sc.s.names.lookup x = some .local := by
  unfold pureB at h
  split at h <;> simp_all
theorem dbg_of {x : Str} (h : notDbg x = true) : (x == ("__debug__" : Str)) = false ∧ (x == ("__classdict__" : Str)) = false := by
  unfold notDbg at h
  simpa using h
theorem no_star {c : CE} {e : Expr} {p : Pos} : okE T N sc c (.Starred e p) = true → False := by
  cases c <;> simp [okE]
theorem no_set {c : CE} {es : List Expr} {n : Nat} {p : Pos} : okE T N sc c (.Set es n p) = true → False := by
  cases c <;> simp [okE]
theorem star_of {c : CE} {e : Expr} {es : List Expr} {env : Env} (h : okE T N sc c e = true) : starEach (e :: es) env = (false, eval e env) :: starEach es env := by
  cases e <;> first | rfl | exact (no_star h).elim
theorem mark_of {c : CE} {e : Expr} {op : CmpOp} (h : okE T N sc c e = true) : behindInMarks op e = false := by
  cases e <;> first | rfl | exact (no_set h).elim
theorem fold_of {c : CE} {e : Expr} {env : Env} (h : okE T N sc c e = true) : ∀ x, foldedSetIterable e env x = pure x := by
  cases e <;> first | (intro x; rfl) | exact (no_set h).elim
theorem stars_of {pos : Pos} {env : Env} : ∀ {es : List CE} {es' : List Expr}, okEs T N sc es es' = true → (backTo pos (starEach es' env)).any (·.1) = false
  | [], [], _ => rfl
  | [], _ :: _, h => by simp [okEs] at h
  | _ :: _, [], h => by simp [okEs] at h
  | e :: es, e' :: es', h => by
    simp only [okEs, Bool.and_eq_true] at h
    rw [star_of h.1]
    have ih := stars_of (pos := pos) (env := env) h.2
    simpa [backTo] using ih
theorem kws_of {pos : Pos} {env : Env} : ∀ {es : List CE} {ks : List Keyword} , okKs T N sc es ks = true → (backToKw pos (keywordEach ks env)).all (·.1.isSome) = true ∧ (backToKw pos (keywordEach ks env)).any (·.1.isNone) = false ∧
    (backToKw pos (keywordEach ks env)).map (·.1) = kwNames ks
  | [], [], _ => ⟨rfl, rfl, rfl⟩
  | [], _ :: _, h => by simp [okKs] at h
  | _ :: _, [], h => by simp [okKs] at h
  | e :: es, ⟨n, e', p⟩ :: es', h => by
    simp only [okKs, Bool.and_eq_true] at h
    obtain ⟨a, b, c⟩ := kws_of (pos := pos) (env := env) h.2
    refine ⟨?_, ?_, ?_⟩
    · simp [backToKw, keywordEach] at a ⊢
      exact ⟨h.1.1, a⟩
    · simp [backToKw, keywordEach] at b ⊢
      exact ⟨by cases n <;> simp_all, b⟩
    · simp [backToKw, keywordEach, kwNames] at c ⊢
      exact c
theorem filterMap_names : ∀ {α : Type} (l : List (Option Str × α)) (ks : List Str), l.map (·.1) = ks.map some → l.filterMap (·.1) = ks
  | _, [], [], _ => rfl
  | _, [], _ :: _, h => by simp at h
  | _, _ :: _, [], h => by simp at h
  | _, (n, a) :: l, y :: ks, h => by
    simp only [List.map_cons, List.cons.injEq] at h
    obtain ⟨h1, h2⟩ := h
    have h1' : n = some y := h1
    subst h1'
    have ih := filterMap_names l ks h2
    simpa using ih
theorem sub_of {o i : Expr} {pos : Pos} {env : Env} (h : notSl i = true) : ∀ v, assign (.Subscript o i pos) env v = (do
      let ov ← holding [v] (eval o env)
      let iv ← holding [v, ov] (eval i env)
      standAt pos
      holding [v, ov, iv] (setItem ov iv v)
      release [v, ov, iv] []) := by
  cases i <;> first | (intro v; rfl) | (simp [notSl] at h)
theorem plain_of {i : Expr} (h : notSl i = true) : PlainIx i := by
  cases i <;> first | (intro o j; rfl) | (simp [notSl] at h)
theorem nosl_of {i : Expr} (h : notSl i = true) : NoSl i := by
  cases i <;> first | (intro o j; rfl) | (simp [notSl] at h)
theorem base_of {o : Expr} {m : Str} {env : Env} (h : notCall o = true) : attributeBase o m env (eval o env) = eval o env := by
  cases o <;> first | rfl | (simp [notCall] at h)
theorem swaps_of {e : Expr} {t : Option Expr} {l : Nat} {env : Env} (h : notComp e = true) : swapsWith e t l env = pure false := by
  cases e <;> first | rfl | (simp [notComp] at h)
theorem block_of (hx : Here T G k N X sc) : X.env.blockKind = .function := by
  unfold Env.blockKind
  rw [hx.scp, hx.kind]; rfl
theorem swN_of (hx : Here T G k N X sc) {ts vs : List Expr} {r : Option (List Str)} {k1 k2 : Nat} {p1 p2 : Pos} (h : swN sc ts vs = some r) : swappedStores [.Tuple ts k1 p1] (.Tuple vs k2 p2) X.env = pure r := by
  have hb := block_of hx
  unfold swN at h
  unfold swappedStores
  have hk : ∀ id : Str, X.env.kindOf id = sc.s.names.lookup id := fun id => by
    show X.env.scope.names.lookup id = _
    rw [hx.scp]
  simp only [hb, hk, bne_self_eq_false, Bool.or_false]
  split at h
  · rename_i h1
    cases h
    exact if_pos h1
  · rename_i h1
    refine (if_neg h1).trans ?_
    split at h
    · rename_i h2
      cases h
      exact if_pos h2
    · rename_i h2
      refine (if_neg h2).trans ?_
      simp only at h
      split at h
      · rename_i h3
        cases h
        exact if_pos h3
      · rename_i h3
        refine (if_neg h3).trans ?_
        split at h
        · rename_i h4
          cases h
          exact if_pos h4
        · rename_i h4
          refine (if_neg h4).trans ?_
          split at h
          · cases h
          · rename_i h5
            cases h
            exact if_neg h5
theorem noSwap_of (hx : Here T G k N X sc) {t e : Expr} (h : noSwap sc t e = true) : swappedStores [t] e X.env = pure none := by
  unfold noSwap at h
  split at h
  · split at h
    · rename_i h1; exact swN_of hx h1
    · cases h
  · cases h
  · rename_i h1 h2
    cases t <;> cases e <;> first | rfl | exact (h1 _ _ _ _ _ _ rfl rfl).elim | exact (h2 _ _ _ _ _ rfl rfl).elim
end
end DL

namespace DL
open PySem PySem.Spec PyProof.Rows L2
section
variable {T : Tb} {G : Fns} {k : Nat} {N : List Str}
theorem getD_of {K : PySem.W.Frag} {H : Hp} {η μ : List Addr} {ds : List D} {vs : List V} (q : RVs K H η μ ds vs) (i : Nat) : RV K H η μ (ds.getD i .non) (vs.getD i .non) := by
  by_cases h : i < ds.length
  · obtain ⟨v, e, r⟩ := q.get (List.getElem?_eq_getElem h)
    rw [List.getD_eq_getElem?_getD, List.getD_eq_getElem?_getD, List.getElem?_eq_getElem h, e]
    exact r
  · rw [List.getD_eq_getElem?_getD, List.getD_eq_getElem?_getD, List.getElem?_eq_none_iff.mpr (by omega), List.getElem?_eq_none_iff.mpr (by rw [← q.length]; omega)]
    exact .non
theorem perm_of {K : PySem.W.Frag} {H : Hp} {η μ : List Addr} {ds : List D} {vs : List V} (q : RVs K H η μ ds vs) : ∀ l : List Nat, RVs K H η μ (l.map fun i => ds.getD i .non) (l.map fun i => vs.getD i .non)
  | [] => .nil
  | i :: l => .cons (getD_of q i) (perm_of q l)
theorem Here.blk {X : Cx} {sc : SS} {scope : Scope} (hx : Here T G k N X sc) (hk : scope.kind = .function) (s : Shared) (H : Hp) (C : Addr) (cl : List (Str × Addr)) (fp : List Addr) :
    Here T G k N (X.blk s H scope (compEnvC scope cl C X.env) fp) ⟨relS scope sc.s, scope⟩ :=
  ⟨hx.tab, hx.nm, hx.nd, by rw [← hx.scp]; rfl, hk, hx.calm, hx.room, hx.gd, rfl, fun x h => by show (scope.names.lookup x == some .cell) = true; rw [h]; rfl⟩
theorem grow_hidden {μ μ' : List Addr} {H H' : Hp} {D : Addr} {o : HO} (g : Grow μ H μ' H') (h : H D = none) : Grow μ H μ' (upd H' D o) :=
  ⟨g.pre, fun a u e n => ⟨by rw [upd_ne (ne_of_none e h)]; exact (g.keep a u e n).1, (g.keep a u e n).2⟩, fun a xs e => by rw [upd_ne (ne_of_none e h)]; exact g.tup a xs e, fun a u w e => by rw [upd_ne (ne_of_none e h)]; exact g.frz a u w e⟩
theorem ext_hidden {η μ μ' : List Addr} {H H' : Hp} {D : Addr} (g : Grow μ H μ' H') (h : H D = none) : Ext η μ H (D :: η) μ' H' :=
  ⟨g.pre, fun a u e n m => ⟨(g.keep a u e n).1, (g.keep a u e n).2, fun z => by
    rcases List.mem_cons.mp z with z | z
    · exact ne_of_none e h z
    · exact m z⟩, g.tup, g.frz⟩
theorem bool_ext {X : Cx} {op : BoolOp} {vs : List Expr} {p : Pos} {t : TT} (h : PT X (.BoolOp op vs p) t) : PW X (.BoolOp op vs p) t := ⟨fun whole pins s σ H Q I q => by
  have := h.run pins s σ H Q I q
  simp only [PySem.isTrue] at this ⊢
  exact this⟩
/-- the reading of a comprehension -/
theorem lc_of {X : Cx} {η μ : List Addr} {ρ : DEnv} {S : DStore} {σ : L2.St} {H : Hp} {m : Bool} {elt : CE} {tg : CT} {it : CI} {ifs : List CB} {own : List Nat} {QD : QE} {Q : VK}
    (hE : RE X.K H η μ ρ σ) (hR : Rp X.K η μ S H) (hs : tg.simple = true) (hsl : ∀ i ∈ tg.slots, i ∈ own) (hT : wpE G (.lc m elt tg it ifs own) ρ S QD) (hQ : ∀ v H', Post X.K η μ H QD v H' → Q v H') :
    tLc (iOf X.K (wpI G it)) (gS X.K tg) (bOf X.K (wpBs G ifs)) (tOf X.K (wpE G elt)) own σ H Q := by
  simp only [wpE] at hT
  refine ⟨η, μ, ρ, S, _, hE, hR, hT, fun J H1 items I S1 μ1 g1 r1 hW jok D hD => ?_⟩
  obtain ⟨W, w0, wst, hlen, turn, fin⟩ := hW
  have hDη : D ∉ η := (r1.fresh hD).2
  refine ⟨fun i m H' => i ≤ items.length ∧ m = items.length - i ∧ ∃ acc vs S' μ', Grow μ1 H1 μ' H' ∧ Rp X.K (D :: η) μ' S' H' ∧ H' D = some (.lst vs) ∧ RVs X.K H' (D :: η) μ' acc vs ∧ W i acc S',
    ⟨items.length, Nat.zero_le _, rfl, [], [], S1, μ1, grow_new r1 hD, rp_hide r1 hD, upd_same, .nil, w0⟩, ?_⟩
  rintro i mm H' ⟨hi, rfl, acc, vs, S', μ', gg, rr, hDv, rvs, w⟩
  obtain ⟨hI, hacc, _⟩ := wst i acc S' w
  obtain ⟨jgo, jstop⟩ := jok i (D :: η) μ' S' H' (ext_hidden gg hD) rr hI
  by_cases hlt : i < items.length
  · right
    obtain ⟨go, yl⟩ := jgo hlt
    refine ⟨go, fun H'' => i + 1 ≤ items.length ∧ ∃ acc vs S' μ', Grow μ1 H1 μ' H'' ∧ Rp X.K (D :: η) μ' S' H'' ∧ H'' D = some (.lst vs) ∧ RVs X.K H'' (D :: η) μ' acc vs ∧ W (i + 1) acc S',
      fun H'' hN => ⟨items.length - (i + 1), by omega, hN.1, rfl, hN.2⟩, fun x H'' hy => ?_⟩
    obtain ⟨gy, ry, d, hd, rvd⟩ := yl x H'' hy
    have hE2 : RE X.K H'' (D :: η) μ' ρ σ := ((hE.ext g1.ext).ext (ext_hidden gg hD)).ext gy.ext
    refine gS_run tg hs ry (re_wipe hE2 own) rvd (turn i d acc S' w hd) fun ρ2 σ2 e2 l2 k2 q2 => ⟨?_, ?_⟩
    · refine wipe_ext (by rw [l2, wipe_length]) fun j hj => ?_
      exact k2 j fun z => hj (hsl j z)
    · have hDy : H'' D = some (.lst vs) := (gy.keep D _ hDv (rr.hid D (by simp)).1).1
      refine useB e2 ry q2 fun b S3 μ3 H3 g3 r3 e3 q3 => ?_
      have hD3 : H3 D = some (.lst vs) := (g3.keep D _ hDy (ry.hid D (by simp)).1).1
      cases b with
      | true =>
        simp only [if_true] at q3 ⊢
        refine use e3 r3 q3 fun y S4 v4 μ4 H4 g4 r4 e4 rv4 q4 => ?_
        have hD4 : H4 D = some (.lst vs) := (g4.keep D _ hD3 (r3.hid D (by simp)).1).1
        have gAll : Grow μ1 H1 μ4 H4 := ((gg.trans gy).trans g3).trans g4
        have rvs4 : RVs X.K H4 (D :: η) μ4 acc vs := ((rvs.ext gy.ext).ext g3.ext).ext g4.ext
        refine ⟨vs, hD4, by rw [← rvs.length]; omega, hlt, acc ++ [y], vs ++ [v4], S4, μ4, grow_hidden gAll hD, rp_hset r4, upd_same, ?_, q4⟩
        exact (rvs4.append (.cons rv4 .nil)).ext (ext_hset r4)
      | false =>
        simp only [Bool.false_eq_true, if_false] at q3 ⊢
        exact ⟨hlt, acc, vs, S3, μ3, (gg.trans gy).trans g3, r3, hD3, (rvs.ext gy.ext).ext g3.ext, q3⟩
  · left
    have hi' : i = items.length := by omega
    subst hi'
    refine ⟨jstop (Nat.le_refl _) (Nat.le_refl _), hQ _ _ ?_⟩
    have f := fin acc S' w
    cases m with
    | true =>
      refine ⟨_, _, _, g1.trans ⟨?_, fun a o e n => ⟨(gg.keep a o e n).1, fun z => ?_⟩, gg.tup, gg.frz⟩, rp_showCell hDη rr hDv rvs, .ref (by rw [← rr.len]; simp), f⟩
      · obtain ⟨more, rfl⟩ := gg.pre
        exact ⟨more ++ [D], by simp⟩
      · rcases List.mem_append.mp z with z | z
        · exact (gg.keep a o e n).2 z
        · exact ne_of_none e hD (by simpa using z)
    | false => exact ⟨_, _, _, g1.trans gg, rp_show rr, .lst (rr.hid D (by simp)).1 hDη hDv (rvs.ext ext_show), f⟩
/-- the reading of a dict's comprehension -/
theorem dc_of {X : Cx} {η μ : List Addr} {ρ : DEnv} {S : DStore} {σ : L2.St} {H : Hp} {key val : CE} {tg : CT} {it : CI} {own : List Nat} {QD : QE} {Q : VK}
    (hE : RE X.K H η μ ρ σ) (hR : Rp X.K η μ S H) (hs : tg.simple = true) (hsl : ∀ i ∈ tg.slots, i ∈ own) (hT : wpE G (.dcomp key val tg it own) ρ S QD) (hQ : ∀ v H', Post X.K η μ H QD v H' → Q v H') :
    tDc (iOf X.K (wpI G it)) (gS X.K tg) tYes (tOf X.K (wpE G key)) (tOf X.K (wpE G val)) own σ H Q := by
  simp only [wpE] at hT
  refine ⟨η, μ, ρ, S, _, hE, hR, hT, fun J H1 items I S1 μ1 g1 r1 hW jok D hD => ?_⟩
  obtain ⟨W, w0, wst, turn, fin⟩ := hW
  have hDη : D ∉ η := (r1.fresh hD).2
  refine ⟨fun i m H' => i ≤ items.length ∧ m = items.length - i ∧ ∃ acc vs S' μ', Grow μ1 H1 μ' H' ∧ Rp X.K (D :: η) μ' S' H' ∧ H' D = some (.dK vs) ∧ RKs X.K H' (D :: η) μ' acc vs ∧ W i acc S',
    ⟨items.length, Nat.zero_le _, rfl, [], [], S1, μ1, grow_new r1 hD, rp_hideO r1 (fun _ z => nomatch z) (fun _ _ z => nomatch z) hD, upd_same, .nil, w0⟩, ?_⟩
  rintro i mm H' ⟨hi, rfl, acc, vs, S', μ', gg, rr, hDv, rvs, w⟩
  obtain ⟨hI, _⟩ := wst i acc S' w
  obtain ⟨jgo, jstop⟩ := jok i (D :: η) μ' S' H' (ext_hidden gg hD) rr hI
  by_cases hlt : i < items.length
  · right
    obtain ⟨go, yl⟩ := jgo hlt
    refine ⟨go, fun H'' => i + 1 ≤ items.length ∧ ∃ acc vs S' μ', Grow μ1 H1 μ' H'' ∧ Rp X.K (D :: η) μ' S' H'' ∧ H'' D = some (.dK vs) ∧ RKs X.K H'' (D :: η) μ' acc vs ∧ W (i + 1) acc S',
      fun H'' hN => ⟨items.length - (i + 1), by omega, hN.1, rfl, hN.2⟩, fun x H'' hy => ?_⟩
    obtain ⟨gy, ry, d, hd, rvd⟩ := yl x H'' hy
    have hE2 : RE X.K H'' (D :: η) μ' ρ σ := ((hE.ext g1.ext).ext (ext_hidden gg hD)).ext gy.ext
    refine gS_run tg hs ry (re_wipe hE2 own) rvd (turn i d acc S' w hd) fun ρ2 σ2 e2 l2 k2 q2 => ⟨?_, ?_⟩
    · refine wipe_ext (by rw [l2, wipe_length]) fun j hj => ?_
      exact k2 j fun z => hj (hsl j z)
    · have hDy : H'' D = some (.dK vs) := (gy.keep D _ hDv (rr.hid D (by simp)).1).1
      simp only [tYes, if_true]
      refine use e2 ry q2 fun y S3 v3 μ3 H3 g3 r3 e3 rv3 q3 => ?_
      have hD3 : H3 D = some (.dK vs) := (g3.keep D _ hDy (ry.hid D (by simp)).1).1
      refine use e3 r3 q3 fun z S4 v4 μ4 H4 g4 r4 e4 rv4 q4 => ?_
      have hD4 : H4 D = some (.dK vs) := (g4.keep D _ hD3 (r3.hid D (by simp)).1).1
      obtain ⟨k, hk, hlen, q⟩ := q4
      have gAll : Grow μ1 H1 μ4 H4 := ((gg.trans gy).trans g3).trans g4
      have rvs4 : RKs X.K H4 (D :: η) μ4 acc vs := ((rvs.ext gy.ext).ext g3.ext).ext g4.ext
      refine ⟨vs, k, keyOf_rv rv3 hk, hD4, by rw [← rvs.length]; exact hlen, hlt, putD acc k z, putK vs k v4, S4, μ4, grow_hidden gAll hD, rp_hsetO (fun _ z => nomatch z) (fun _ _ z => nomatch z) r4, upd_same, ?_, q⟩
      exact (rvs4.put rv4).ext (ext_hset r4)
  · left
    have hi' : i = items.length := by omega
    subst hi'
    refine ⟨jstop (Nat.le_refl _) (Nat.le_refl _), hQ _ _ ?_⟩
    have f := fin acc S' w
    refine ⟨_, _, _, g1.trans ⟨?_, fun a o e n => ⟨(gg.keep a o e n).1, fun z => ?_⟩, gg.tup, gg.frz⟩, rp_showCellK hDη rr hDv rvs, .ref (by rw [← rr.len]; simp), f⟩
    · obtain ⟨more, rfl⟩ := gg.pre
      exact ⟨more ++ [D], by simp⟩
    · rcases List.mem_append.mp z with z | z
      · exact (gg.keep a o e n).2 z
      · exact ne_of_none e hD (by simpa using z)
/-- the reading of one with two fors -/
theorem lc2_of {X : Cx} {η μ : List Addr} {ρ : DEnv} {S : DStore} {σ : L2.St} {H : Hp} {m : Bool} {elt : CE} {tg tg1 : CT} {it it1 : CI} {own own1 : List Nat} {QD : QE} {Q : VK}
    (hE : RE X.K H η μ ρ σ) (hR : Rp X.K η μ S H) (hs : tg.simple = true) (hsl : ∀ i ∈ tg.slots, i ∈ own) (hs1 : tg1.simple = true) (hsl1 : ∀ i ∈ tg1.slots, i ∈ own1) (hT : wpE G (.lc2 m elt tg it tg1 it1 own own1) ρ S QD) (hQ : ∀ v H', Post X.K η μ H QD v H' → Q v H') :
    tLc2 (iOf X.K (wpI G it)) (gS X.K tg) tYes (iOf X.K (wpI G it1)) (gS X.K tg1) tYes (tOf X.K (wpE G elt)) own own1 σ H Q := by
  simp only [wpE] at hT
  refine ⟨η, μ, ρ, S, _, hE, hR, hT, fun J H1 items I S1 μ1 g1 r1 hW jok D hD => ?_⟩
  obtain ⟨W, w0, wst, turn, fin⟩ := hW
  have hDη : D ∉ η := (r1.fresh hD).2
  refine ⟨fun i m H' => i ≤ items.length ∧ m = items.length - i ∧ ∃ acc vs S' μ', Grow μ1 H1 μ' H' ∧ Rp X.K (D :: η) μ' S' H' ∧ H' D = some (.lst vs) ∧ RVs X.K H' (D :: η) μ' acc vs ∧ W i acc S',
    ⟨items.length, Nat.zero_le _, rfl, [], [], S1, μ1, grow_new r1 hD, rp_hide r1 hD, upd_same, .nil, w0⟩, ?_⟩
  rintro i mm H' ⟨hi, rfl, acc, vs, S', μ', gg, rr, hDv, rvs, w⟩
  obtain ⟨hI, _⟩ := wst i acc S' w
  obtain ⟨jgo, jstop⟩ := jok i (D :: η) μ' S' H' (ext_hidden gg hD) rr hI
  by_cases hlt : i < items.length
  · right
    obtain ⟨go, yl⟩ := jgo hlt
    refine ⟨go, fun H'' => i + 1 ≤ items.length ∧ ∃ acc vs S' μ', Grow μ1 H1 μ' H'' ∧ Rp X.K (D :: η) μ' S' H'' ∧ H'' D = some (.lst vs) ∧ RVs X.K H'' (D :: η) μ' acc vs ∧ W (i + 1) acc S',
      fun H'' hN => ⟨items.length - (i + 1), by omega, hN.1, rfl, hN.2⟩, fun x H'' hy => ?_⟩
    obtain ⟨gy, ry, d, hd, rvd⟩ := yl x H'' hy
    have hE2 : RE X.K H'' (D :: η) μ' ρ σ := ((hE.ext g1.ext).ext (ext_hidden gg hD)).ext gy.ext
    refine gS_run tg hs ry (re_wipe hE2 own) rvd (turn i d acc S' w hd) fun ρ2 σ2 e2 l2 k2 q2 => ⟨?_, ?_⟩
    · refine wipe_ext (by rw [l2, wipe_length]) fun j hj => ?_
      exact k2 j fun z => hj (hsl j z)
    · have hDy : H'' D = some (.lst vs) := (gy.keep D _ hDv (rr.hid D (by simp)).1).1
      simp only [tYes, if_true]
      refine ⟨D :: η, μ', ρ2, S', _, e2, ry, q2, fun J1 H4 items1 I1 S4 μ4 g4 r4 hW1 jok1 => ?_⟩
      obtain ⟨W1, w10, wst1, turn1, fin1⟩ := hW1
      have hD4 : H4 D = some (.lst vs) := (g4.keep D _ hDy (ry.hid D (by simp)).1).1
      refine ⟨fun j k H5 => j ≤ items1.length ∧ k = items1.length - j ∧ ∃ acc vs S5 μ5, Ext (D :: η) μ4 H4 (D :: η) μ5 H5 ∧ Grow μ1 H1 μ5 H5 ∧ Rp X.K (D :: η) μ5 S5 H5 ∧ H5 D = some (.lst vs) ∧ RVs X.K H5 (D :: η) μ5 acc vs ∧ W1 j acc S5,
        ⟨items1.length, Nat.zero_le _, rfl, acc, vs, S4, μ4, Ext.refl, (gg.trans gy).trans g4, r4, hD4, (rvs.ext gy.ext).ext g4.ext, w10⟩, ?_⟩
      rintro j kk H5 ⟨hj, rfl, acc1, vs1, S5, μ5, ex5, gg5, rr5, hD5, rvs5, w5⟩
      obtain ⟨hI1, hacc1, _⟩ := wst1 j acc1 S5 w5
      obtain ⟨jgo1, jstop1⟩ := jok1 j (D :: η) μ5 S5 H5 ex5 rr5 hI1
      by_cases hlt1 : j < items1.length
      · right
        obtain ⟨go1, yl1⟩ := jgo1 hlt1
        refine ⟨go1, fun H6 => j + 1 ≤ items1.length ∧ ∃ acc vs S5 μ5, Ext (D :: η) μ4 H4 (D :: η) μ5 H6 ∧ Grow μ1 H1 μ5 H6 ∧ Rp X.K (D :: η) μ5 S5 H6 ∧ H6 D = some (.lst vs) ∧ RVs X.K H6 (D :: η) μ5 acc vs ∧ W1 (j + 1) acc S5,
          fun H6 hN => ⟨items1.length - (j + 1), by omega, hN.1, rfl, hN.2⟩, fun x1 H6 hy1 => ?_⟩
        obtain ⟨gy1, ry1, d1, hd1, rvd1⟩ := yl1 x1 H6 hy1
        have hE6 : RE X.K H6 (D :: η) μ5 ρ2 σ2 := ((e2.ext g4.ext).ext ex5).ext gy1.ext
        refine gS_run tg1 hs1 ry1 (re_wipe hE6 own1) rvd1 (turn1 j d1 acc1 S5 w5 hd1) fun ρ3 σ3 e3 l3 k3 q3 => ⟨?_, ?_⟩
        · refine wipe_ext (by rw [l3, wipe_length]) fun n hn => ?_
          exact k3 n fun z => hn (hsl1 n z)
        · have hD6 : H6 D = some (.lst vs1) := (gy1.keep D _ hD5 (rr5.hid D (by simp)).1).1
          simp only [tYes, if_true]
          refine use e3 ry1 q3 fun y S7 v7 μ7 H7 g7 r7 e7 rv7 q7 => ?_
          have hD7 : H7 D = some (.lst vs1) := (g7.keep D _ hD6 (ry1.hid D (by simp)).1).1
          have rvs7 : RVs X.K H7 (D :: η) μ7 acc1 vs1 := (rvs5.ext gy1.ext).ext g7.ext
          refine ⟨vs1, hD7, by rw [← rvs5.length]; exact hacc1, hlt1, acc1 ++ [y], vs1 ++ [v7], S7, μ7, ((ex5.trans gy1.ext).trans g7.ext).trans (ext_hset r7), grow_hidden ((gg5.trans gy1).trans g7) hD, rp_hset r7, upd_same, ?_, q7⟩
          exact (rvs7.append (.cons rv7 .nil)).ext (ext_hset r7)
      · left
        have hj' : j = items1.length := by omega
        subst hj'
        exact ⟨jstop1 (Nat.le_refl _) (Nat.le_refl _), hlt, acc1, vs1, S5, μ5, gg5, rr5, hD5, rvs5, fin1 acc1 S5 w5⟩
  · left
    have hi' : i = items.length := by omega
    subst hi'
    refine ⟨jstop (Nat.le_refl _) (Nat.le_refl _), hQ _ _ ?_⟩
    have f := fin acc S' w
    cases m with
    | true =>
      refine ⟨_, _, _, g1.trans ⟨?_, fun a o e n => ⟨(gg.keep a o e n).1, fun z => ?_⟩, gg.tup, gg.frz⟩, rp_showCell hDη rr hDv rvs, .ref (by rw [← rr.len]; simp), f⟩
      · obtain ⟨more, rfl⟩ := gg.pre
        exact ⟨more ++ [D], by simp⟩
      · rcases List.mem_append.mp z with z | z
        · exact (gg.keep a o e n).2 z
        · exact ne_of_none e hD (by simpa using z)
    | false => exact ⟨_, _, _, g1.trans gg, rp_show rr, .lst (rr.hid D (by simp)).1 hDη hDv (rvs.ext ext_show), f⟩
end
end DL

set_option maxHeartbeats 4000000
namespace DL
open PySem PySem.Spec PyProof.Rows L2
section
variable {T : Tb} {G : Fns} {k : Nat} {N : List Str}
theorem bi_val (b : BI) : (∃ id, b.val = .builtin id) ∨ ∃ t, b.val = .type t := by cases b <;> first | exact .inl ⟨_, rfl⟩ | exact .inr ⟨_, rfl⟩
theorem pe_bi {X : Cx} {b : BI} {e : Expr} {es : List Expr} {t : TA} {p pos : Pos} {r : List V → Hp → VK → Prop} (hc : CallR X b.val r) (hg : Gl X b.name) (hm : X.mg b.name = none) (ha : PA X (e :: es) t)
    (he : starEach (e :: es) X.env = (false, eval e X.env) :: starEach es X.env) (hpl : (backTo pos (starEach es X.env)).any (·.1) = false) : PE X (.Call (.Name b.name p) (e :: es) [] pos) (tCB r t) := by
  have hb := b.boot
  rcases bi_val b with ⟨id, ev⟩ | ⟨id, ev⟩
  · rw [ev] at hc hb
    exact pe_callB hc hg hm hb ha b.nm.1 b.nm.2 he hpl
  · rw [ev] at hc hb
    exact pe_callTy hc hg hm hb ha b.nm.1 b.nm.2 he hpl
theorem pairs_of {c : CI} {e : Expr} (h : (!c.pairs || isTupE e) = true) : c.pairs = true → isTupE e = true := by
  cases hc : c.pairs <;> simp_all
theorem pg_or {X : Cx} {e : Expr} {g1 g2 : TG} (h1 : PG X e g1) (h2 : PG X e g2) : PG X e (fun v σ H Q => g1 v σ H Q ∨ g2 v σ H Q) :=
  ⟨fun pins s σ H v u Q I r hw => hw.elim (fun h => h1.run pins s σ H v u Q I r h) fun h => h2.run pins s σ H v u Q I r h⟩
theorem lits {α : Type} [BEq α] [LawfulBEq α] {o : Option α} {x : α} (h : (o == some x) = true) : o = some x := by simpa using h
theorem cut_whole {xs : List D} {n : Nat} {l u : Option Int} (h : xs.length = n) (z : HT.sIx n 0 l = 0 ∧ HT.sIx n n u = n) : cutD xs l u = xs := by
  unfold cutD
  rw [h, z.1, z.2, List.drop_zero, Nat.sub_zero, ← h]
  exact List.take_length
theorem okEs_cons {sc : SS} {cs : List CE} {e : Expr} {es : List Expr} (h : okEs T N sc cs (e :: es) = true) : (∃ c, okE T N sc c e = true) ∧ ∃ cs', okEs T N sc cs' es = true := by
  cases cs with
  | nil => simp [okEs] at h
  | cons c cs => simp only [okEs, Bool.and_eq_true] at h; exact ⟨⟨c, h.1⟩, cs, h.2⟩
theorem pa1 {X : Cx} {e : Expr} {T : TD} (h : PE X e (tOf X.K T)) (hs : starEach [e] X.env = (false, eval e X.env) :: starEach [] X.env) : PA X [e] (aOf X.K 1 (fun ρ S Q => T ρ S fun d S1 => Q [d] S1)) :=
  PA.imp (pa_cons h pa_nil hs) fun σ H Q ⟨η, μ, ρ, S, QD, hE, hR, hT, hQ⟩ => use hE hR hT fun d S1 v μ1 H1 g1 r1 e1 rv1 q1 => hQ _ _ ⟨[d], S1, μ1, g1, r1, .cons rv1 .nil, q1⟩ rfl
theorem pa2 {X : Cx} {e e' : Expr} {T T' : TD} (h : PE X e (tOf X.K T)) (h' : PE X e' (tOf X.K T')) (hs : starEach [e, e'] X.env = (false, eval e X.env) :: starEach [e'] X.env) (hs' : starEach [e'] X.env = (false, eval e' X.env) :: starEach [] X.env) :
    PA X [e, e'] (aOf X.K 2 (fun ρ S Q => T ρ S fun d S1 => T' ρ S1 fun d' S2 => Q [d, d'] S2)) :=
  PA.imp (pa_cons h (pa_cons h' pa_nil hs') hs) fun σ H Q ⟨η, μ, ρ, S, QD, hE, hR, hT, hQ⟩ => use hE hR hT fun d S1 v μ1 H1 g1 r1 e1 rv1 q1 => use e1 r1 q1 fun d2 S2 v2 μ2 H2 g2 r2 e2 rv2 q2 =>
    hQ _ _ ⟨[d, d2], S2, μ2, g1.trans g2, r2, .cons (rv1.ext g2.ext) (.cons rv2 .nil), q2⟩ rfl
theorem kes_len {sc : SS} : ∀ {cs : List CE} {ks : List Keyword}, okKs T N sc cs ks = true → cs.length = ks.length ∧ (kwNames ks).length = ks.length
  | [], [], _ => ⟨rfl, rfl⟩
  | [], _ :: _, h => by simp [okKs] at h
  | _ :: _, [], h => by simp [okKs] at h
  | c :: cs, ⟨n, e, p⟩ :: ks, h => by
    simp only [okKs, Bool.and_eq_true] at h
    obtain ⟨a, b⟩ := kes_len h.2
    exact ⟨by simp [a], by simp [kwNames, b]⟩
theorem sI_fold {sc : SS} {env : Env} (c : CI) (e : Expr) (h : okI T N sc c e = true) : ∀ x, foldedSetIterable e env x = pure x := by
  cases e <;> first | (intro x; rfl) | (exfalso; cases c <;> first | (simp [okI] at h; done) | (simp only [okI] at h; exact no_set h))
theorem one_of {ds : List D} {vs : List V} {K : PySem.W.Frag} {H : Hp} {η μ : List Addr} (r : RVs K H η μ ds vs) (h : vs.length = 1) : ∃ d v, ds = [d] ∧ vs = [v] ∧ RV K H η μ d v := by
  cases r with
  | nil => simp at h
  | cons a b => cases b with
    | nil => exact ⟨_, _, rfl, rfl, a⟩
    | cons c d => simp at h
theorem two_of {ds : List D} {vs : List V} {K : PySem.W.Frag} {H : Hp} {η μ : List Addr} (r : RVs K H η μ ds vs) (h : vs.length = 2) : ∃ d d' v v', ds = [d, d'] ∧ vs = [v, v'] ∧ RV K H η μ d v ∧ RV K H η μ d' v' := by
  cases r with
  | nil => simp at h
  | cons a b =>
    obtain ⟨d, v, rfl, rfl, r⟩ := one_of b (by simpa using h)
    exact ⟨_, _, _, _, rfl, rfl, a, r⟩
set_option maxHeartbeats 4000000 in
theorem rks_zip {κ : Type} {K : PySem.W.Frag} {H : Hp} {η μ : List Addr} : ∀ (ks : List κ) {ds : List D} {vs : List V}, RVs K H η μ ds vs → RKs K H η μ (ks.zip ds) (ks.zip vs)
  | [], _, _, _ => .nil
  | _ :: _, _, _, .nil => .nil
  | _ :: ks, _, _, .cons a b => .cons a (rks_zip ks b)
theorem rks_merge {K : PySem.W.Frag} {H : Hp} {η μ : List Addr} {ds : List (L2.Key × D)} {vs : List (L2.Key × V)} (r : RKs K H η μ ds vs) : ∀ {es : List (L2.Key × D)} {ws : List (L2.Key × V)}, RKs K H η μ es ws → RKs K H η μ (mergeD es ds) (mergeK ws vs) := by
  induction r with
  | nil => intro es ws q; exact q
  | cons a b ih => intro es ws q; exact ih (q.put a)
theorem rg_rvL {K : PySem.W.Frag} {H : Hp} {η μ : List Addr} (i : Int) : ∀ l : List Nat, RVs K H η μ (l.map fun (k : Nat) => D.int (i + k)) (l.map fun (k : Nat) => V.int (i + (k : Nat)))
  | [] => .nil
  | k :: l => .cons (.int _) (rg_rvL i l)
theorem rg_rv {K : PySem.W.Frag} {H : Hp} {η μ : List Addr} (i j : Int) : RVs K H η μ (rangeD i j) (rgV i j) := rg_rvL i _
mutual
theorem sE : ∀ (c : CE) {X : Cx} {sc : SS} (e : Expr), Here T G k N X sc → okE T N sc c e = true → DE X e (wpE G c)
  | .var i, X, sc, e, hx, h => by
    cases e <;> first | (simp [okE] at h; done) | skip
    simp only [okE, Bool.and_eq_true] at h
    obtain ⟨⟨h1, h2⟩, h3⟩ := h
    refine DE.mk (pe_var (i := i) (by rw [hx.nm]; exact lits h2) (by rw [hx.scp]; exact vis_of h1) (dbg_of h3).1 (dbg_of h3).2) fun η μ ρ S σ H Q QD hE hR hT hQ => ?_
    simp only [wpE] at hT
    obtain ⟨d, e, q⟩ := hT
    obtain ⟨v, ev, rv⟩ := hE.get i d e
    exact ⟨v, ev, hQ _ _ (stay hR rv q)⟩
  | .con c, X, sc, e, hx, h => by
    cases e <;> first | (simp [okE] at h; done) | skip
    rename_i kk _ _
    simp only [okE] at h
    cases c <;> cases kk <;> first | (simp [okC] at h; done) | skip
    · exact DE.mk pe_non fun η μ ρ S σ H Q QD hE hR hT hQ => hQ _ _ (stay hR .non (by simpa only [wpE, CC.d] using hT))
    · simp only [okC, beq_iff_eq] at h; subst h
      exact DE.mk pe_bl fun η μ ρ S σ H Q QD hE hR hT hQ => hQ _ _ (stay hR (.bl _) (by simpa only [wpE, CC.d] using hT))
    · simp only [okC, beq_iff_eq] at h; subst h
      exact DE.mk pe_int fun η μ ρ S σ H Q QD hE hR hT hQ => hQ _ _ (stay hR (.int _) (by simpa only [wpE, CC.d] using hT))
    · simp only [okC, beq_iff_eq] at h; subst h
      exact DE.mk pe_str fun η μ ρ S σ H Q QD hE hR hT hQ => hQ _ _ (stay hR (.str _) (by simpa only [wpE, CC.d] using hT))
  | .glo j, X, sc, e, hx, h => by
    cases e <;> first | (simp [okE] at h; done) | skip
    simp only [okE, Bool.and_eq_true] at h
    obtain ⟨⟨h1, h2⟩, h3⟩ := h
    obtain ⟨u, v, hm, r, rv, _⟩ := hx.tab.gl j _ (lits h2)
    refine DE.mk (pe_glob (gl_of hx h1) hm r (dbg_of h3).1) fun η μ ρ S σ H Q QD hE hR hT hQ => hQ _ _ (stay hR (rv _ _ _) (by simpa only [wpE] using hT))
  | .bin op m a b, X, sc, e, hx, h => by
    cases e <;> first | (simp [okE] at h; done) | skip
    simp only [okE, Bool.and_eq_true, beq_iff_eq] at h
    obtain ⟨⟨h1, h2⟩, h3⟩ := h
    subst h1
    obtain ⟨r, ho, hr⟩ := binR (X := X) op
    refine DE.mk (pe_op ho (sE a _ hx h2) (sE b _ hx h3)) fun η μ ρ S σ H Q QD hE hR hT hQ => ?_
    simp only [wpE] at hT
    refine use hE hR hT fun d S1 v μ1 H1 g1 r1 e1 rv1 q1 => use e1 r1 q1 fun d2 S2 v2 μ2 H2 g2 r2 e2 rv2 q2 => ?_
    exact hr r2 (rv1.ext g2.ext) rv2 q2 fun v H' p => hQ _ _ ((p.from g2).from g1)
  | .neg a, X, sc, e, hx, h => by
    cases e <;> first | (simp [okE] at h; done) | skip
    rename_i op x p
    cases op <;> first | (simp [okE] at h; done) | skip
    simp only [okE] at h
    refine DE.mk (pe_un un_neg (sE a _ hx h)) fun η μ ρ S σ H Q QD hE hR hT hQ => ?_
    simp only [wpE] at hT
    refine use hE hR hT fun d S1 v μ1 H1 g1 r1 e1 rv1 q1 => ?_
    obtain ⟨i, rfl, q⟩ := q1
    cases rv1
    exact ⟨_, rfl, hQ _ _ ((stay r1 (.int _) q).from g1)⟩
  | .cmp op a b, X, sc, e, hx, h => by
    cases e <;> first | (simp [okE] at h; done) | skip
    rename_i l ops cs p
    match ops, cs, h with
    | [op'], [b'], h =>
      simp only [okE, Bool.and_eq_true, beq_iff_eq] at h
      obtain ⟨⟨h1, h2⟩, h3⟩ := h
      subst h1
      obtain ⟨r, ho, hr⟩ := cmpR (X := X) hx.room.units op
      refine DE.mk (pe_cmpR ho (sE a _ hx h2) (sE b _ hx h3) (mark_of h3)) fun η μ ρ S σ H Q QD hE hR hT hQ => ?_
      simp only [wpE] at hT
      refine use hE hR hT fun d S1 v μ1 H1 g1 r1 e1 rv1 q1 => use e1 r1 q1 fun d2 S2 v2 μ2 H2 g2 r2 e2 rv2 q2 => ?_
      exact hr r2 (rv1.ext g2.ext) rv2 q2 fun b hb => hQ _ _ (((stay r2 (.bl b) hb).from g2).from g1)
    | [], _, h => simp [okE] at h
    | [_], [], h => simp [okE] at h
    | [_], _ :: _ :: _, h => simp [okE] at h
    | _ :: _ :: _, _, h => simp [okE] at h
  | .chain op1 op2 a b c, X, sc, e, hx, h => by
    cases e <;> first | (simp [okE] at h; done) | skip
    rename_i l ops cs p
    match ops, cs, h with
    | [o1, o2], [b', c'], h =>
      simp only [okE, Bool.and_eq_true, beq_iff_eq] at h
      obtain ⟨⟨⟨⟨h1, h2⟩, h3⟩, h4⟩, h5⟩ := h
      subst h1; subst h2
      obtain ⟨r, ho, hr⟩ := cmpR (X := X) hx.room.units op1
      obtain ⟨r', ho', hr'⟩ := cmpR (X := X) hx.room.units op2
      refine DE.mk (pe_chain ho ho' (sE a _ hx h3) (sE b _ hx h4) (sE c _ hx h5) (by show behindInMarks op2 c' = false; exact mark_of h5)) fun η μ ρ S σ H Q QD hE hR hT hQ => ?_
      simp only [wpE] at hT
      refine use hE hR hT fun d S1 v μ1 H1 g1 r1 e1 rv1 q1 => use e1 r1 q1 fun d2 S2 v2 μ2 H2 g2 r2 e2 rv2 q2 => ?_
      refine hr r2 (rv1.ext g2.ext) rv2 q2 fun b hb => ⟨b, rfl, ?_⟩
      cases b with
      | true =>
        simp only [if_true] at hb ⊢
        refine use e2 r2 hb fun d3 S3 v3 μ3 H3 g3 r3 e3 rv3 q3 => ?_
        exact hr' r3 (rv2.ext g3.ext) rv3 q3 fun b hb => hQ _ _ ((((stay r3 (.bl b) hb).from g3).from g2).from g1)
      | false =>
        simp only [Bool.false_eq_true, if_false] at hb ⊢
        exact hQ _ _ (((stay r2 (.bl _) hb).from g2).from g1)
    | [], _, h => simp [okE] at h
    | [_], _, h => simp [okE] at h
    | [_, _], [], h => simp [okE] at h
    | [_, _], [_], h => simp [okE] at h
    | [_, _], _ :: _ :: _ :: _, h => simp [okE] at h
    | _ :: _ :: _ :: _, _, h => simp [okE] at h
  | .and_ a b, X, sc, e, hx, h => by
    cases e <;> first | (simp [okE] at h; done) | skip
    rename_i op vs p
    match op, vs, h with
    | .And, a' :: b' :: r, h =>
      simp only [okE, Bool.and_eq_true] at h
      have hb : PE X (.BoolOp .And (b' :: r) p) (tOf X.K (wpE G b)) := by
        cases r with
        | nil => exact pe_one (sE b _ hx h.2)
        | cons c' r' => exact sE b _ hx h.2
      refine DE.mk (pe_and (sE a _ hx h.1) hb) fun η μ ρ S σ H Q QD hE hR hT hQ => ?_
      simp only [wpE] at hT
      refine use hE hR hT fun d S1 v μ1 H1 g1 r1 e1 rv1 q1 => ?_
      obtain ⟨c, rfl, q⟩ := q1
      cases rv1
      refine ⟨c, rfl, ?_⟩
      cases c with
      | true =>
        simp only [if_true] at q ⊢
        exact ⟨_, _, _, _, _, e1, r1, q, fun v H' p => hQ _ _ (p.from g1)⟩
      | false =>
        simp only [Bool.false_eq_true, if_false] at q ⊢
        exact hQ _ _ ((stay r1 (.bl _) q).from g1)
    | .And, [], h => simp [okE] at h
    | .And, [_], h => simp [okE] at h
    | .Or, _, h => simp [okE] at h
  | .or_ a b, X, sc, e, hx, h => by
    cases e <;> first | (simp [okE] at h; done) | skip
    rename_i op vs p
    match op, vs, h with
    | .Or, a' :: b' :: r, h =>
      simp only [okE, Bool.and_eq_true] at h
      have hb : PE X (.BoolOp .Or (b' :: r) p) (tOf X.K (wpE G b)) := by
        cases r with
        | nil => exact pe_one (sE b _ hx h.2)
        | cons c' r' => exact sE b _ hx h.2
      refine DE.mk (pe_or (sE a _ hx h.1) hb) fun η μ ρ S σ H Q QD hE hR hT hQ => ?_
      simp only [wpE] at hT
      refine use hE hR hT fun d S1 v μ1 H1 g1 r1 e1 rv1 q1 => ?_
      obtain ⟨c, rfl, q⟩ := q1
      cases rv1
      refine ⟨c, rfl, ?_⟩
      cases c with
      | false =>
        simp only [Bool.false_eq_true, if_false] at q ⊢
        exact ⟨_, _, _, _, _, e1, r1, q, fun v H' p => hQ _ _ (p.from g1)⟩
      | true =>
        simp only [if_true] at q ⊢
        exact hQ _ _ ((stay r1 (.bl _) q).from g1)
    | .Or, [], h => simp [okE] at h
    | .Or, [_], h => simp [okE] at h
    | .And, _, h => simp [okE] at h
  | .not_ a, X, sc, e, hx, h => by
    cases e <;> first | (simp [okE] at h; done) | skip
    rename_i op x p
    cases op <;> first | (simp [okE] at h; done) | skip
    simp only [okE] at h
    refine DE.mk (pe_not (sE a _ hx h)) fun η μ ρ S σ H Q QD hE hR hT hQ => ?_
    simp only [wpE] at hT
    refine use hE hR hT fun d S1 v μ1 H1 g1 r1 e1 rv1 q1 => ?_
    obtain ⟨i, rfl, q⟩ := q1
    cases rv1
    exact ⟨_, rfl, hQ _ _ ((stay r1 (.bl _) q).from g1)⟩
  | .ite t a b, X, sc, e, hx, h => by
    cases e <;> first | (simp [okE] at h; done) | skip
    simp only [okE, Bool.and_eq_true] at h
    refine DE.mk (pe_ifExp (sB t _ hx h.1.1) (sE a _ hx h.1.2) (sE b _ hx h.2)) fun η μ ρ S σ H Q QD hE hR hT hQ => ?_
    simp only [wpE] at hT
    refine useB hE hR hT fun c S1 μ1 H1 g1 r1 e1 q1 => ?_
    cases c with
    | true =>
      simp only [if_true] at q1 ⊢
      exact ⟨_, _, _, _, _, e1, r1, q1, fun v H' p => hQ _ _ (p.from g1)⟩
    | false =>
      simp only [Bool.false_eq_true, if_false] at q1 ⊢
      exact ⟨_, _, _, _, _, e1, r1, q1, fun v H' p => hQ _ _ (p.from g1)⟩
  | .tup es, X, sc, e, hx, h => by
    cases e <;> first | (simp [okE] at h; done) | skip
    simp only [okE, Bool.and_eq_true, decide_eq_true_eq] at h
    refine DE.mk (pe_tup (sEs es _ hx h.1)) fun η μ ρ S σ H Q QD hE hR hT hQ => ?_
    simp only [wpE] at hT
    refine useA hE hR hT fun ds S1 vs μ1 H1 g1 r1 e1 rv1 hl q1 => ⟨?_, fun p hp => hQ _ _ ((new_tup r1 rv1 q1 p hp).from g1)⟩
    have : (1000 : Nat) ≤ sizeLine := by decide
    omega
  | .lst m es, X, sc, e, hx, h => by
    cases e <;> first | (simp [okE] at h; done) | skip
    simp only [okE, Bool.and_eq_true, decide_eq_true_eq] at h
    refine DE.mk (pe_lst (sEs es _ hx h.1)) fun η μ ρ S σ H Q QD hE hR hT hQ => ?_
    simp only [wpE] at hT
    refine useA hE hR hT fun ds S1 vs μ1 H1 g1 r1 e1 rv1 hl q1 => ⟨?_, fun p hp => hQ _ _ ((new_lst r1 rv1 q1 p hp).from g1)⟩
    have : (1000 : Nat) ≤ sizeLine := by decide
    omega
  | .ix a i, X, sc, e, hx, h => by
    cases e <;> first | (simp [okE] at h; done) | skip
    simp only [okE, Bool.and_eq_true] at h
    refine DE.mk (pe_ix (ix_seq.or (ix_dictS (by have := hx.room.units; omega))) (sE a _ hx h.1.1) (sE i _ hx h.1.2) (plain_of h.2)) fun η μ ρ S σ H Q QD hE hR hT hQ => ?_
    simp only [wpE] at hT
    refine use hE hR hT fun d S1 v μ1 H1 g1 r1 e1 rv1 q1 => use e1 r1 q1 fun d2 S2 v2 μ2 H2 g2 r2 e2 rv2 q2 => ?_
    exact ix_of r2 (rv1.ext g2.ext) rv2 q2 fun d v rv q => hQ _ _ (((stay r2 rv q).from g2).from g1)
  | .sl m a lo hi, X, sc, e, hx, h => by
    cases e <;> first | (simp [okE] at h; done) | skip
    rename_i o s p
    cases s <;> first | (simp [okE] at h; done) | skip
    rename_i lo' hi' st p2
    cases st <;> first | (simp [okE] at h; done) | skip
    simp only [okE, Bool.and_eq_true] at h
    refine DE.mk (pe_slice (sl_list.or sl_tupA) (sE a _ hx h.1.1) (sO lo _ hx h.1.2) (sO hi _ hx h.2)) fun η μ ρ S σ H Q QD hE hR hT hQ => ?_
    simp only [wpE] at hT
    refine use hE hR hT fun d S1 v μ1 H1 g1 r1 e1 rv1 q1 => useB e1 r1 q1 fun l S2 μ2 H2 g2 r2 e2 q2 => useB e2 r2 q2 fun u S3 μ3 H3 g3 r3 e3 q3 => ?_
    have rv3 := (rv1.ext g2.ext).ext g3.ext
    have hQ' : ∀ v H', Post X.K η μ3 H3 QD v H' → Q v H' := fun v H' p => hQ _ _ (((p.from g3).from g2).from g1)
    simp only [slD] at q3
    split at q3
    · cases rv3 with
      | tup hh qq =>
        refine .inr ⟨_, _, rfl, hh, fun z => ?_, fun _ p hp => hQ' _ _ (new_tup r3 (cut_of qq l u) q3 p hp)⟩
        refine hQ' _ _ (stay r3 (.tup hh qq) ?_)
        rw [cut_whole qq.length z] at q3
        exact q3
    · obtain ⟨xs, e4, hn⟩ := q3
      obtain ⟨a4, vs4, rfl, h4, q4⟩ := lst_of r3 rv3 e4
      exact .inl ⟨_, _, rfl, .inl (.inl h4), fun p hp => hQ' _ _ (new_lst r3 (cut_of q4 l u) hn p hp)⟩
  | .call j es, X, sc, e, hx, h => by
    cases e <;> first | (simp [okE] at h; done) | skip
    rename_i f as ks p
    cases f <;> first | (simp [okE] at h; done) | skip
    cases ks with
    | cons _ _ => simp [okE] at h
    | nil =>
      simp only [okE, Bool.and_eq_true] at h
      obtain ⟨⟨⟨h1, h2⟩, h3⟩, h4⟩ := h
      split at h4
      · rename_i i hi
        simp only [Bool.and_eq_true, beq_iff_eq, Bool.not_eq_true'] at h4
        obtain ⟨h4, hko⟩ := h4
        subst h4
        obtain ⟨f, fd, F, hm, hk, hb0, _⟩ := hx.tab.fn j i hi
        have hb := hb0 hko
        cases as with
        | nil =>
          cases es with
          | cons _ _ => simp [okEs] at h3
          | nil =>
            refine DE.mk (pe_callG0 F hx.room hx.gd (gl_of hx h1) hm hk hb pk_nil rfl rfl (dbg_of h2).1 rfl) fun η μ ρ S σ H Q QD hE hR hT hQ => ?_
            simp only [wpE, wpEs] at hT
            exact ⟨η, μ, S, [], QD, hR, .nil, hT, fun v H' p => hQ _ _ p⟩
        | cons e' es' =>
          obtain ⟨⟨c0, h31⟩, _⟩ := okEs_cons h3
          refine DE.mk (pe_callG F hx.room hx.gd (gl_of hx h1) hm hk hb (sEs es _ hx h3) pk_nil rfl rfl (dbg_of h2).1 (star_of h31) (by rw [stars_of h3]; rfl)) fun η μ ρ S σ H Q QD hE hR hT hQ => ?_
          simp only [wpE] at hT
          refine useA hE hR hT fun ds S1 vs μ1 H1 g1 r1 e1 rv1 hl q1 => ?_
          exact ⟨η, μ1, S1, ds, QD, r1, rv1, q1, fun v H' p => hQ _ _ (p.from g1)⟩
      · cases h4
  | .callK j es kes perm, X, sc, e, hx, h => by
    cases e <;> first | (simp [okE] at h; done) | skip
    rename_i f as ks p
    cases f <;> first | (simp [okE] at h; done) | skip
    simp only [okE, Bool.and_eq_true] at h
    obtain ⟨⟨⟨⟨h1, h2⟩, h3⟩, h5⟩, h4⟩ := h
    split at h4
    · rename_i i hi
      simp only [Bool.and_eq_true, beq_iff_eq, List.any_eq_true] at h4
      obtain ⟨h6, pp, hp, h7, h8⟩ := h4
      subst h6; subst h8
      obtain ⟨f, fd, F, hm, hk, _, hb⟩ := hx.tab.fn j i hi
      have K1 := kws_of (pos := p) (env := X.env) h5
      have hks : (backToKw p (keywordEach ks X.env)).filterMap (·.1) = pp.1 := filterMap_names _ _ (by rw [K1.2.2, h7])
      have hkl : kes.length = pp.1.length := by
        obtain ⟨z1, z2⟩ := kes_len h5
        rw [← h7, List.length_map] at z2
        omega
      cases as with
      | nil =>
        cases es with
        | cons _ _ => simp [okEs] at h3
        | nil =>
          refine DE.mk (pe_callG0 F hx.room hx.gd (gl_of hx h1) hm hk (hb pp hp) (sKs kes _ hx h5) K1.1 hks (dbg_of h2).1 (by rw [K1.2.1]; rfl)) fun η μ ρ S σ H Q QD hE hR hT hQ => ?_
          simp only [wpE, wpEs] at hT
          refine useA hE hR hT fun ds S1 vs μ1 H1 g1 r1 e1 rv1 hl q1 => ?_
          refine ⟨η, μ1, S1, _, QD, r1, ?_, q1, fun v H' p => hQ _ _ (p.from g1)⟩
          unfold gK
          rw [if_pos (by rw [hl]; exact hkl)]
          exact RVs.append .nil (perm_of rv1 pp.2)
      | cons e' es' =>
        obtain ⟨⟨c0, h31⟩, _⟩ := okEs_cons h3
        refine DE.mk (pe_callG F hx.room hx.gd (gl_of hx h1) hm hk (hb pp hp) (sEs es _ hx h3) (sKs kes _ hx h5) K1.1 hks (dbg_of h2).1 (star_of h31) (by rw [stars_of h3, K1.2.1]; rfl)) fun η μ ρ S σ H Q QD hE hR hT hQ => ?_
        simp only [wpE] at hT
        refine useA hE hR hT fun ds S1 vs μ1 H1 g1 r1 e1 rv1 hl q1 => useA e1 r1 q1 fun ds2 S2 vs2 μ2 H2 g2 r2 e2 rv2 hl2 q2 => ?_
        refine ⟨η, μ2, S2, _, QD, r2, ?_, q2, fun v H' p => hQ _ _ ((p.from g2).from g1)⟩
        unfold gK
        rw [if_pos (by rw [hl2]; exact hkl)]
        exact (rv1.ext g2.ext).append (perm_of rv2 pp.2)
    · cases h4
  | .bi b m es, X, sc, e, hx, h => by
    cases e <;> first | (simp [okE] at h; done) | skip
    rename_i f as ks p
    cases f <;> first | (simp [okE] at h; done) | skip
    cases as with
    | nil => simp [okE] at h
    | cons e' es' =>
      cases ks with
      | cons _ _ => simp [okE] at h
      | nil =>
        simp only [okE, Bool.and_eq_true, beq_iff_eq] at h
        obtain ⟨⟨⟨h1, h2⟩, h4⟩, h3⟩ := h
        subst h2
        obtain ⟨⟨c0, h31⟩, cs0, h32⟩ := okEs_cons h3
        obtain ⟨r, hc, hr⟩ := biR (X := X) hx.calm hx.gd hx.room.units b
        refine DE.mk (pe_bi hc (gl_of hx h1) (hx.tab.bi _ (by simpa using h4)) (sEs es _ hx h3) (star_of h31) (stars_of h32)) fun η μ ρ S σ H Q QD hE hR hT hQ => ?_
        simp only [wpE] at hT
        refine useA hE hR hT fun ds S1 vs μ1 H1 g1 r1 e1 rv1 hl q1 => ?_
        exact hr r1 rv1 q1 fun v H' p => hQ _ _ (p.from g1)
  | .isi t a, X, sc, e, hx, h => by
    cases e <;> first | (simp [okE] at h; done) | skip
    rename_i f as ks p
    cases f <;> first | (simp [okE] at h; done) | skip
    match as, ks, h with
    | [a', b'], [], h =>
      cases b' <;> first | (simp [okE] at h; done) | skip
      rename_i y py
      simp only [okE, Bool.and_eq_true, beq_iff_eq] at h
      obtain ⟨⟨⟨⟨⟨⟨h1, h2⟩, h3⟩, h4⟩, h5⟩, h6⟩, h7⟩ := h
      subst h1; subst h4
      have hs : starEach [a', .Name t.nm py] X.env = (false, eval a' X.env) :: starEach [.Name t.nm py] X.env := star_of h7
      have hty : PE X (.Name t.nm py) (tC (.ty (tyS t))) := by
        have hb := hx.tab.bi _ (by simpa using h6)
        cases t <;> exact pe_bltn (u := .type _) (gl_of hx h5) hb (by decide +kernel) rfl
      refine DE.mk (pe_callB call_isi (gl_of hx h2) (hx.tab.bi _ (by simpa using h3)) (by decide +kernel) (pa_cons (sE a a' hx h7) (pa_cons hty pa_nil rfl) hs) (by decide) (by decide) hs rfl) fun η μ ρ S σ H Q QD hE hR hT hQ => ?_
      simp only [wpE] at hT
      refine use hE hR hT fun d S1 v μ1 H1 g1 r1 e1 rv1 q1 => ?_
      obtain ⟨ty, b9, h8, h9, q⟩ := ty_of r1 rv1 q1
      refine ⟨v, _, _, _, _, rfl, .ty _, h8, kit_ty h9, hQ _ _ ((stay r1 (.bl _) q).from g1)⟩
    | [], _, h => simp [okE] at h
    | [_], _, h => simp [okE] at h
    | _ :: _ :: _ :: _, _, h => simp [okE] at h
    | [_, _], _ :: _, h => simp [okE] at h
  | .dnew, X, sc, e, hx, h => by
    unfold okE at h
    split at h <;> first | (cases h; done) | (rename_i hq; cases hq; done) | skip
    refine DE.mk pe_dnewT fun η μ ρ S σ H Q QD hE hR hT hQ => ?_
    simp only [wpE] at hT
    intro p hp
    exact hQ _ _ ⟨_, _, _, grow_cell hR hp, rp_cellD hR hp .nil, rv_cell hR, hT⟩
  | .dnewK, X, sc, e, hx, h => by
    unfold okE at h
    split at h <;> first | (cases h; done) | (rename_i hq; cases hq; done) | skip
    refine DE.mk pe_dnewK fun η μ ρ S σ H Q QD hE hR hT hQ => ?_
    simp only [wpE] at hT
    intro p hp
    exact hQ _ _ ⟨_, _, _, grow_cell hR hp, rp_cellK hR hp .nil, rv_cell hR, hT⟩
  | .dnew1 es v, X, sc, e, hx, h => by
    cases e <;> first | (simp [okE] at h; done) | skip
    rename_i ks vs p
    match ks, vs, h with
    | [some (.Tuple es' tk tp)], [v'], h =>
      simp only [okE, Bool.and_eq_true, decide_eq_true_eq] at h
      obtain ⟨⟨h1, h2⟩, h3⟩ := h
      refine DE.mk (pe_disp1 hx.room.units (pe_tup (sEs es _ hx h1)) (sE v _ hx h3)) fun η μ ρ S σ H Q QD hE hR hT hQ => ?_
      simp only [wpE] at hT
      intro p hp
      have g0 := grow_cell (o := .dT []) hR hp
      have r0 := rp_cellD hR hp .nil
      refine useA (hE.ext g0.ext) r0 hT fun ys S1 vs μ1 H1 g1 r1 e1 rv1 hl q1 => ⟨?_, fun p1 hp1 => ?_⟩
      · have : (1000 : Nat) ≤ sizeLine := by decide
        omega
      have g2 := grow_new (o := .tup vs) r1 hp1
      have r2 := rp_new (o := .tup vs) r1 hp1
      refine use (e1.ext g2.ext) r2 q1 fun z S2 w μ2 H2 g3 r3 e3 rv3 q2 => ?_
      obtain ⟨ks, hk, hc, q⟩ := q2
      have rvp : RV X.K H2 η μ2 (.ref S.length) (.ref p) := (((rv_cell hR).ext g1.ext).ext g2.ext).ext g3.ext
      have eb : vs = ks.map kV := keysOf_rv rv1 hk
      have rvp' := rvp
      cases rvp' with
      | ref hn =>
        obtain ⟨a', ha', ws, hw, qs⟩ := r3.cell _ _ hc
        rw [hn] at ha'; cases ha'
        cases qs
        refine ⟨hw, p1, ks, rfl, by rw [← eb]; exact g3.tup _ _ upd_same, ?_⟩
        have gg := grow_set (o := .dT [(ks, w)]) r3 hn hw
        exact hQ _ _ ⟨_, _, _, (((g0.trans g1).trans g2).trans g3).trans gg, rp_setD r3 hn hw (.cons rv3 .nil), rvp.ext gg.ext, q⟩
    | [], _, h => simp [okE] at h
    | _ :: _ :: _, _, h => simp [okE] at h
    | [_], [], h => simp [okE] at h
    | [_], _ :: _ :: _, h => simp [okE] at h
  | .ktup es, X, sc, e, hx, h => by
    cases e <;> first | (simp [okE] at h; done) | skip
    simp only [okE, Bool.and_eq_true, decide_eq_true_eq] at h
    refine DE.mk (pe_tup (sEs es _ hx h.1)) fun η μ ρ S σ H Q QD hE hR hT hQ => ?_
    simp only [wpE] at hT
    refine useA hE hR hT fun ds S1 vs μ1 H1 g1 r1 e1 rv1 hl q1 => ⟨?_, fun p hp => ?_⟩
    · have : (1000 : Nat) ≤ sizeLine := by decide
      omega
    obtain ⟨ks, hk, q⟩ := q1
    have eb : vs = ks.map kV := keysOf_rv rv1 hk
    exact hQ _ _ ⟨.key ks, S1, μ1, g1.trans (grow_new r1 hp), rp_new r1 hp, .key (by rw [← eb]; exact upd_same), q⟩
  | .lrg m a b, X, sc, e, hx, h => by
    cases e <;> first | (simp [okE] at h; done) | skip
    rename_i f as ks p
    cases f <;> first | (simp [okE] at h; done) | skip
    match as, ks, h with
    | [z], [], h =>
      cases z <;> first | (simp [okE] at h; done) | skip
      rename_i f2 as2 ks2 p2
      cases f2 <;> first | (simp [okE] at h; done) | skip
      match as2, ks2, h with
      | [a', b'], [], h =>
        simp only [okE, Bool.and_eq_true, beq_iff_eq] at h
        obtain ⟨⟨⟨⟨⟨⟨⟨h1, h2⟩, h3⟩, h4⟩, h5⟩, h6⟩, h7⟩, h8⟩ := h
        subst h1 h4
        refine DE.mk (pe_listRg hx.calm (gl_of hx h2) (hx.tab.bi _ (by simpa using h3)) (prg_2 (gl_of hx h5) (hx.tab.bi _ (by simpa using h6)) (sE a a' hx h7) (sE b b' hx h8) (star_of h7) (star_of h8) (by rw [star_of h8]; rfl))) fun η μ ρ S σ H Q QD hE hR hT hQ => ?_
        simp only [wpE] at hT
        refine use hE hR hT fun d S1 v μ1 H1 g1 r1 e1 rv1 q1 => use e1 r1 q1 fun d2 S2 v2 μ2 H2 g2 r2 e2 rv2 q2 => ?_
        obtain ⟨i, j, rfl, rfl, s1, s2, hz, q⟩ := q2
        cases rv1; cases rv2
        refine ⟨i, j, rfl, rfl, ⟨s1.1, s1.2, s2.1, s2.2, by omega⟩, fun p hp => hQ _ _ ((new_lst r2 (rg_rv i j) q p hp).from (g1.trans g2))⟩
      | [], _, h => simp [okE] at h
      | [_], _, h => simp [okE] at h
      | _ :: _ :: _ :: _, _, h => simp [okE] at h
      | [_, _], _ :: _, h => simp [okE] at h
    | [], _, h => simp [okE] at h
    | _ :: _ :: _, _, h => simp [okE] at h
    | [_], _ :: _, h => simp [okE] at h
  | .kix a i, X, sc, e, hx, h => by
    cases e <;> first | (simp [okE] at h; done) | skip
    simp only [okE, Bool.and_eq_true] at h
    refine DE.mk (pe_dget (by have := hx.room.units; omega) (sE a _ hx h.1.1) (sE i _ hx h.1.2) (nosl_of h.2)) fun η μ ρ S σ H Q QD hE hR hT hQ => ?_
    simp only [wpE] at hT
    refine use hE hR hT fun d S1 v μ1 H1 g1 r1 e1 rv1 q1 => use e1 r1 q1 fun d2 S2 v2 μ2 H2 g2 r2 e2 rv2 q2 => ?_
    obtain ⟨n, kvs, k, w, rfl, hd, hk, hw, q⟩ := q2
    obtain ⟨a1, vs, rfl, ha, qk⟩ := dkk_of r2 (rv1.ext g2.ext) hd
    obtain ⟨w', hw', rw'⟩ := (qk.val k).1 w hw
    refine ⟨a1, w', rfl, .inl ⟨vs, k, ha, keyOf_rv rv2 hk, hw'.symm⟩, hQ _ _ (((stay r2 rw' q).from g2).from g1)⟩
  | .kget a i x, X, sc, e, hx, h => by
    unfold okE at h
    split at h <;> first | (cases h; done) | (rename_i hq; cases hq; done) | skip
    rename_i hq; cases hq
    rename_i o m ap i' x' cp
    simp only [Bool.and_eq_true, beq_iff_eq] at h
    obtain ⟨⟨⟨⟨⟨h1, h2⟩, h3⟩, h4⟩, h6⟩, h7⟩ := h
    subst h1
    have hs1 := star_of (env := X.env) (es := [x']) h4
    have hs2 := star_of (env := X.env) (es := []) h6
    refine DE.mk (pe_dget2 (by have := hx.room.units; omega) (sE a _ hx h3) (sE i _ hx h4) (sE x _ hx h6) ⟨base_of h7, by rw [hs1, hs2]; rfl, by simpa using h2, by rw [hs1, hs2]; rfl⟩) fun η μ ρ S σ H Q QD hE hR hT hQ => ?_
    simp only [wpE] at hT
    refine use hE hR hT fun d S1 v μ1 H1 g1 r1 e1 rv1 q1 => ?_
    obtain ⟨n, rfl, ⟨kvs0, hd⟩, q1⟩ := q1
    obtain ⟨a1, vs0, rfl, ha, qk⟩ := dkk_of r1 rv1 hd
    refine ⟨a1, rfl, .inl ⟨_, ha⟩, ?_⟩
    refine use e1 r1 q1 fun y S2 v2 μ2 H2 g2 r2 e2 rv2 q2 => use e2 r2 q2 fun z S4 w μ4 H4 g4 r4 e4 rv4 q4 => ?_
    obtain ⟨kvs, k, hd4, hk, q⟩ := q4
    obtain ⟨a2, vs4, e5, ha4, qk4⟩ := dkk_of r4 ((rv1.ext g2.ext).ext g4.ext) hd4
    cases e5
    refine ⟨valV vs4 k, .inl ⟨vs4, k, ha4, keyOf_rv rv2 hk, rfl⟩, ?_⟩
    have rr : RV X.K H4 η μ4 ((valD kvs k).getD z) ((valV vs4 k).getD w) := by
      have hv := qk4.val k
      cases e6 : valD kvs k with
      | none => rw [hv.2 e6]; exact rv4
      | some d6 => obtain ⟨v6, e7, r7⟩ := hv.1 d6 e6; rw [e7]; exact r7
    exact hQ _ _ (((stay r4 rr q).from g4).from g2 |>.from g1)
  | .dcomp key val tg it own, X, sc, e, hx, h => by
    cases e <;> first | (simp [okE] at h; done) | skip
    rename_i key' val' gs scope p
    match gs, h with
    | [⟨tg', it', ifs', as⟩], h =>
      by_cases ha : as = 0 ∧ ifs' = []
      · obtain ⟨rfl, rfl⟩ := ha
        simp only [okE, Bool.and_eq_true] at h
        obtain ⟨⟨⟨⟨⟨⟨⟨h1, h2⟩, h2'⟩, h3⟩, h4⟩, h5⟩, h6⟩, h9⟩ := h
        have ok := blkOk_by h1
        have hok : BlkOk X.N X.env.scope scope (own.map fun i => (N.getD i "", i)) := by rw [hx.nm, hx.scp]; exact ok
        have hown : (own.map fun i => ((N.getD i "", i) : Str × Nat)).map (·.2) = own := by rw [List.map_map]; exact List.map_id _
        have P := pe_dc (pos := p) (kx := key') (vx := val') (ifs := []) (tg := tg') (iter := it') (scope := scope) (g := gS X.K tg) (tt := tYes) (tk := tOf X.K (wpE G key)) (tv := tOf X.K (wpE G val)) hx.calm (by rw [hx.nm]; exact hx.nd) (sI it _ _ hx h6 (pairs_of h9)) hok (fun s H C cl fp => sT tg _ (hx.blk ok.kind s H C cl fp) h3 h4) (fun s H C cl fp => pts_nil)
          (fun s H C cl fp => sE key _ (hx.blk ok.kind s H C cl fp) h2) (fun s H C cl fp => sE val _ (hx.blk ok.kind s H C cl fp) h2') (sI_fold it _ h6)
        rw [hown] at P
        refine DE.mk P fun η μ ρ S σ H Q QD hE hR hT hQ => ?_
        exact dc_of hE hR h4 (fun i hi => by simpa using List.all_eq_true.mp h5 i hi) hT hQ
      · exfalso
        unfold okE at h
        split at h <;> first | (cases h; done) | skip
        all_goals first | (exact ha ⟨rfl, rfl⟩) | (rename_i e1 e2; cases e1; exact ha ⟨rfl, rfl⟩) | simp_all
    | [], h => simp [okE] at h
    | _ :: _ :: _, h => simp [okE] at h
  | .dlit ks es, X, sc, e, hx, h => by
    cases e <;> first | (simp [okE] at h; done) | skip
    rename_i keys values p
    simp only [okE, Bool.and_eq_true, decide_eq_true_eq] at h
    obtain ⟨⟨h1, h2⟩, h3⟩ := h
    obtain ⟨trs, P, hall, hlk, hlv, use'⟩ := sPs es ks keys values p hx h1
    have hk0 : keys ≠ [] := fun z => h2 (List.eq_nil_of_length_eq_zero (by rw [hlk, z]; rfl))
    refine DE.mk (pe_disp P hall (by rw [← hlk, hlv]) hk0 (by rw [← hlk]; exact h3)) fun η μ ρ S σ H Q QD hE hR hT hQ => ?_
    simp only [wpE] at hT
    intro p hp
    have g0 := grow_cell (o := .dK []) hR hp
    have r0 := rp_cellK hR hp .nil
    refine use' η _ ρ _ σ _ _ _ (hE.ext g0.ext) r0 hT fun ds vs S1 μ1 H1 g1 r1 rv1 hl q1 => ?_
    obtain ⟨hc, q⟩ := q1
    have rvp : RV X.K H1 η μ1 (.ref S.length) (.ref p) := (rv_cell hR).ext g1.ext
    have rvp' := rvp
    cases rvp' with
    | ref hn =>
      obtain ⟨a', ha', ws, hw, qs⟩ := r1.cell _ _ hc
      rw [hn] at ha'; cases ha'
      cases qs
      refine ⟨hw, (ks.map Sum.inr).zip vs, ?_, ?_, ?_⟩
      · rw [List.zip_map_left, List.zip_map_left, List.map_map]; rfl
      · rw [List.length_zip]; simp; omega
      · have gg := grow_set (o := .dK (mergeK [] ((ks.map Sum.inr).zip vs))) r1 hn hw
        exact hQ _ _ ⟨_, _, _, (g0.trans g1).trans gg, rp_setK r1 hn hw (rks_merge (rks_zip (ks.map Sum.inr) rv1) .nil), rvp.ext gg.ext, q⟩
  | .popE a, X, sc, e, hx, h => by
    unfold okE at h
    split at h <;> first | (cases h; done) | (rename_i hq; cases hq; done) | skip
    rename_i hq; cases hq
    rename_i o m ap cp
    simp only [Bool.and_eq_true, beq_iff_eq] at h
    obtain ⟨⟨⟨h1, h2⟩, h3⟩, h5⟩ := h
    subst h1
    refine DE.mk (pe_bm0 PySem.F.plainAttrs_list PySem.F.slot_list_pop PySem.F.type_list_pop mt_pop (sE a _ hx h3) (base_of h5) (by simpa using h2)) fun η μ ρ S σ H Q QD hE hR hT hQ => ?_
    simp only [wpE] at hT
    refine use hE hR hT fun d S1 v μ1 H1 g1 r1 e1 rv1 q1 => ?_
    obtain ⟨n, xs, y, rfl, ec, q⟩ := q1
    cases rv1 with
    | @ref n a1 hn1 =>
      obtain ⟨a3, ha3, ws, hw, qs⟩ := r1.cell n _ ec
      rw [hn1] at ha3; cases ha3
      have hlen := qs.length
      refine ⟨.inl ⟨rfl, _, .inl (.inl hw)⟩, ?_⟩
      obtain ⟨u, hu, ru⟩ := qs.get (i := xs.length) (d := y) (by simp)
      refine ⟨a1, ws, u, rfl, rfl, hw, by rw [← hlen]; simpa using hu, ?_⟩
      have gg := grow_set (o := .lst ws.dropLast) r1 hn1 hw
      have qd : RVs X.K H1 η μ1 xs ws.dropLast := by
        have := qs.take xs.length
        rw [List.take_left'] at this
        · rw [List.dropLast_eq_take, ← hlen]; simpa using this
        · rfl
      exact hQ _ _ ⟨y, _, μ1, g1.trans gg, rp_set r1 hn1 hw qd, ru.ext gg.ext, q⟩
  | .lz m a b, X, sc, e, hx, h => by
    cases e <;> first | (simp [okE] at h; done) | skip
    rename_i f as ks p
    cases f <;> first | (simp [okE] at h; done) | skip
    match as, ks, h with
    | [.Call (.Name y p1) [a', b'] [] p2], [], h =>
      simp only [okE, Bool.and_eq_true, beq_iff_eq] at h
      obtain ⟨⟨⟨⟨⟨⟨⟨h1, h2⟩, h3⟩, h4⟩, h5⟩, h6⟩, h7⟩, h8⟩ := h
      subst h1 h4
      refine DE.mk (pe_listZip hx.calm (gl_of hx h2) (hx.tab.bi _ (by simpa using h3)) (gl_of hx h5) (hx.tab.bi _ (by simpa using h6)) (pa_cons (sE a a' hx h7) (pa_cons (sE b b' hx h8) pa_nil (star_of h8)) (star_of h7)) (star_of h7) (by rw [star_of h8]; rfl)) fun η μ ρ S σ H Q QD hE hR hT hQ => ?_
      simp only [wpE] at hT
      refine use hE hR hT fun d S1 v μ1 H1 g1 r1 e1 rv1 q1 => use e1 r1 q1 fun d2 S2 v2 μ2 H2 g2 r2 e2 rv2 q2 => ?_
      exact listZip_of r2 (rv1.ext g2.ext) rv2 q2 fun v H' P => hQ v H' (P.from (g1.trans g2))
    | [], _, h => simp [okE] at h
    | _ :: _ :: _, _, h => simp [okE] at h
    | [_], _ :: _, h => simp [okE] at h
  | .rev a, X, sc, e, hx, h => by
    cases e <;> first | (simp [okE] at h; done) | skip
    rename_i o sl p
    cases sl <;> first | (simp [okE] at h; done) | skip
    rename_i lo hi st p2
    cases lo <;> cases hi <;> first | (simp [okE] at h; done) | skip
    cases st <;> first | (simp [okE] at h; done) | skip
    rename_i st
    cases st <;> first | (simp [okE] at h; done) | skip
    rename_i op cst p3
    cases op <;> cases cst <;> first | (simp [okE] at h; done) | skip
    rename_i cv ck p4
    unfold okE at h
    split at h <;> first | (cases h; done) | skip
    all_goals try (rename_i e1; cases e1)
    all_goals try (rename_i e1; cases e1)
    refine DE.mk (pe_revT (sE a _ hx h)) fun η μ ρ S σ H Q QD hE hR hT hQ => ?_
    simp only [wpE] at hT
    refine use hE hR hT fun d S1 v μ1 H1 g1 r1 e1 rv1 q1 => ?_
    obtain ⟨xs, rfl, q⟩ := q1
    cases rv1 with
    | tup hh qq => exact ⟨_, _, rfl, hh, fun p hp => hQ _ _ ((new_tup r1 (rev_of qq) q p hp).from g1)⟩
  | .dget2 a es x, X, sc, e, hx, h => by
    unfold okE at h
    split at h <;> first | (cases h; done) | (rename_i hq; cases hq; done) | skip
    rename_i hq; cases hq
    rename_i o m ap es' tk tp x' cp
    simp only [Bool.and_eq_true, beq_iff_eq, decide_eq_true_eq] at h
    obtain ⟨⟨⟨⟨⟨⟨h1, h2⟩, h3⟩, h4⟩, h5⟩, h6⟩, h7⟩ := h
    subst h1
    have ht : okE T N sc (.tup es) (.Tuple es' tk tp) = true := by simp only [okE, h4, Bool.true_and, decide_eq_true_eq]; exact h5
    have hs1 := star_of (env := X.env) (es := [x']) ht
    have hs2 := star_of (env := X.env) (es := []) h6
    refine DE.mk (pe_dget2 (by have := hx.room.units; omega) (sE a _ hx h3) (pe_tup (sEs es _ hx h4)) (sE x _ hx h6) ⟨base_of h7, by rw [hs1, hs2]; rfl, by simpa using h2, by rw [hs1, hs2]; rfl⟩) fun η μ ρ S σ H Q QD hE hR hT hQ => ?_
    simp only [wpE] at hT
    refine use hE hR hT fun d S1 v μ1 H1 g1 r1 e1 rv1 q1 => ?_
    obtain ⟨n, rfl, ⟨kvs0, hd⟩, q1⟩ := q1
    obtain ⟨a1, vs0, rfl, ha, qk⟩ := dct_of r1 rv1 hd
    refine ⟨a1, rfl, .inr ⟨_, ha⟩, ?_⟩
    refine useA e1 r1 q1 fun ys S2 vs μ2 H2 g2 r2 e2 rv2 hl q2 => ⟨?_, fun p hp => ?_⟩
    · have : (1000 : Nat) ≤ sizeLine := by decide
      omega
    have g3 := grow_new (o := .tup vs) r2 hp
    have r3 := rp_new (o := .tup vs) r2 hp
    refine use (e2.ext g3.ext) r3 q2 fun z S4 w μ4 H4 g4 r4 e4 rv4 q4 => ?_
    obtain ⟨kvs, ks, hd4, hk, q⟩ := q4
    have eb : vs = ks.map kV := keysOf_rv rv2 hk
    have rv1' : RV X.K H4 η μ4 (.ref n) (.ref a1) := ((rv1.ext g2.ext).ext g3.ext).ext g4.ext
    obtain ⟨a2, vs4, e5, ha4, qk4⟩ := dct_of r4 rv1' hd4
    cases e5
    refine ⟨valV vs4 ks, .inr ⟨vs4, ks, p, ha4, rfl, by rw [← eb]; exact g4.tup _ _ upd_same, rfl⟩, ?_⟩
    have rr : RV X.K H4 η μ4 ((valD kvs ks).getD z) ((valV vs4 ks).getD w) := by
      have hv := qk4.val ks
      cases e6 : valD kvs ks with
      | none => rw [hv.2 e6]; exact rv4
      | some d6 => obtain ⟨v6, e7, r7⟩ := hv.1 d6 e6; rw [e7]; exact r7
    exact hQ _ _ ((((stay r4 rr q).from g4).from g3).from g2 |>.from g1)
  | .tindex i e0, X, sc, e, hx, h => by
    unfold okE at h
    split at h <;> first | (cases h; done) | (rename_i hq; cases hq; done) | skip
    rename_i hq; cases hq
    rename_i x px m ap e' cp
    simp only [Bool.and_eq_true, beq_iff_eq] at h
    obtain ⟨⟨⟨h1, h2⟩, ⟨h3, h31⟩, h32⟩, h4⟩ := h
    subst h1
    obtain ⟨u0, v0, hm, hv, rv0, hk⟩ := hx.tab.gl i x h31
    refine DE.mk (pe_bm PySem.F.plainAttrs_tuple PySem.F.slot_tuple_index PySem.F.type_tuple_index mt_tup_index (pe_glob (gl_of hx h3) hm hv (dbg_of h32).1) (pa1 (sE e0 _ hx h4) (star_of h4)) rfl (by rw [star_of h4]; rfl) (by simpa using h2) (star_of h4) rfl) fun η μ ρ S σ H Q QD hE hR hT hQ => ?_
    simp only [wpE] at hT
    obtain ⟨ys, ey, q1⟩ := hT
    have rv1 := rv0 H η μ
    rw [ey] at rv1
    cases rv1 with
    | @tup a1 xs _ h6 q6 =>
      obtain ⟨ko, kl, kc, kd⟩ := hk a1 rfl
      refine ⟨.inr (.inl ⟨rfl, ko, kl, kc, kd⟩), ?_⟩
      refine useA (QD := fun ds S2 => ∃ z j, ds.headD .non = .str z ∧ ys[j]? = some z ∧ (∀ m, m < j → ys[m]? ≠ some z) ∧ QD (.int (j : Nat)) S2) hE hR q1 fun ds S2 vs μ2 H2 g2 r2 e2 rv2 hl q2 => ?_
      obtain ⟨y, u, rfl, rfl, ru⟩ := one_of rv2 hl
      obtain ⟨z, j, ez, hj, hm, q⟩ := q2
      have ez' : y = .str z := ez
      subst ez'
      cases ru
      have e7 : xs = ys.map V.str := strs_of q6
      subst e7
      exact ⟨a1, ys, z, j, rfl, rfl, SqT.ext (g2.ext (η := η)) h6, hj, hm, hQ _ _ ((stay r2 (.int _) q).from g2)⟩
  | .lc m elt tg it ifs own, X, sc, e, hx, h => by
    cases e <;> first | (simp [okE] at h; done) | skip
    rename_i elt' gs scope p
    match gs, h with
    | [⟨tg', it', ifs', as⟩], h =>
      by_cases ha : as = 0
      · subst ha
        simp only [okE, Bool.and_eq_true] at h
        obtain ⟨⟨⟨⟨⟨⟨⟨⟨h1, h2⟩, h3⟩, h4⟩, h5⟩, h6⟩, h7⟩, h8⟩, h9⟩ := h
        have ok := blkOk_by h1
        have hok : BlkOk X.N X.env.scope scope (own.map fun i => (N.getD i "", i)) := by rw [hx.nm, hx.scp]; exact ok
        have hown : (own.map fun i => ((N.getD i "", i) : Str × Nat)).map (·.2) = own := by rw [List.map_map]; exact List.map_id _
        have P := pe_lc (pos := p) (elt := elt') (ifs := ifs') (tg := tg') (iter := it') (scope := scope) (g := gS X.K tg) (tt := bOf X.K (wpBs G ifs)) (te := tOf X.K (wpE G elt)) hx.calm (by rw [hx.nm]; exact hx.nd) (sI it _ _ hx h6 (pairs_of h9)) hok (fun s H C cl fp => sT tg _ (hx.blk ok.kind s H C cl fp) h3 h4) (fun s H C cl fp => sBs ifs _ (hx.blk ok.kind s H C cl fp) h7 (by simpa using h8))
          (fun s H C cl fp => sE elt _ (hx.blk ok.kind s H C cl fp) h2) (sI_fold it _ h6)
        rw [hown] at P
        refine DE.mk P fun η μ ρ S σ H Q QD hE hR hT hQ => ?_
        exact lc_of hE hR h4 (fun i hi => by simpa using List.all_eq_true.mp h5 i hi) hT hQ
      · simp [okE, ha] at h
    | [], h => simp [okE] at h
    | _ :: _ :: _, h => simp [okE] at h
  | .lc2 m elt tg it tg1 it1 own own1, X, sc, e, hx, h => by
    cases e <;> first | (simp [okE] at h; done) | skip
    rename_i elt' gs scope p
    match gs, h with
    | [⟨tg', it', ifs', as⟩, ⟨tg1', it1', ifs1', as1⟩], h =>
      by_cases ha : as = 0 ∧ as1 = 0 ∧ ifs' = [] ∧ ifs1' = []
      · obtain ⟨rfl, rfl, rfl, rfl⟩ := ha
        simp only [okE, Bool.and_eq_true] at h
        obtain ⟨⟨⟨⟨⟨⟨⟨⟨⟨⟨⟨⟨h1, h2⟩, h3⟩, h4⟩, h5⟩, h6⟩, h7⟩, h8⟩, h9⟩, h10⟩, h11⟩, h12⟩, h13⟩ := h
        have ok := blkOk_by h1
        have hok : BlkOk X.N X.env.scope scope (own.map fun i => (N.getD i "", i)) := by rw [hx.nm, hx.scp]; exact ok
        have hown : (own.map fun i => ((N.getD i "", i) : Str × Nat)).map (·.2) = own := by rw [List.map_map]; exact List.map_id _
        have P := pe_lc2 (pos := p) (elt := elt') (ifs := []) (ifs1 := []) (tg := tg') (iter := it') (tg1 := tg1') (iter1 := it1') (scope := scope) (vs1 := own1) (g := gS X.K tg) (g1 := gS X.K tg1) (tt := tYes) (tt1 := tYes) (wi1 := iOf X.K (wpI G it1)) (te := tOf X.K (wpE G elt)) hx.calm (by rw [hx.nm]; exact hx.nd) (sI it _ _ hx h6 (pairs_of h7)) hok
          (fun i hi => by rw [hown]; simpa using List.all_eq_true.mp h13 i hi)
          (fun s H C cl fp => sT tg _ (hx.blk ok.kind s H C cl fp) h3 h4) (fun s H C cl fp => pts_nil)
          (fun s H C cl fp => sI it1 _ _ (hx.blk ok.kind s H C cl fp) h11 (pairs_of h12))
          (fun s H C cl fp => sT tg1 _ (hx.blk ok.kind s H C cl fp) h8 h9) (fun s H C cl fp => pts_nil)
          (fun s H C cl fp => sE elt _ (hx.blk ok.kind s H C cl fp) h2) (sI_fold it _ h6) (fun env => sI_fold it1 _ h11)
        rw [hown] at P
        refine DE.mk P fun η μ ρ S σ H Q QD hE hR hT hQ => ?_
        exact lc2_of hE hR h4 (fun i hi => by simpa using List.all_eq_true.mp h5 i hi) h9 (fun i hi => by simpa using List.all_eq_true.mp h10 i hi) hT hQ
      · exfalso
        unfold okE at h
        split at h <;> first | (cases h; done) | skip
        all_goals first | (exact ha ⟨rfl, rfl, rfl, rfl⟩) | (rename_i e1 e2; cases e1; exact ha ⟨rfl, rfl, rfl, rfl⟩) | simp_all
    | [], h => simp [okE] at h
    | [_], h => simp [okE] at h
    | _ :: _ :: _ :: _, h => simp [okE] at h
theorem sEs : ∀ (cs : List CE) {X : Cx} {sc : SS} (es : List Expr), Here T G k N X sc → okEs T N sc cs es = true → PA X es (aOf X.K cs.length (wpEs G cs))
  | [], X, sc, es, hx, h => by
    cases es with
    | cons _ _ => simp [okEs] at h
    | nil =>
      refine PA.imp pa_nil fun σ H Q ⟨η, μ, ρ, S, QD, hE, hR, hT, hQ⟩ => ?_
      simp only [wpEs] at hT
      exact hQ [] H ⟨[], S, μ, .refl, hR, .nil, hT⟩ rfl
  | c :: cs, X, sc, es, hx, h => by
    cases es with
    | nil => simp [okEs] at h
    | cons e es =>
      simp only [okEs, Bool.and_eq_true] at h
      refine PA.imp (pa_cons (sE c e hx h.1) (sEs cs es hx h.2) (star_of h.1)) fun σ H Q ⟨η, μ, ρ, S, QD, hE, hR, hT, hQ⟩ => ?_
      simp only [wpEs] at hT
      refine use hE hR hT fun d S1 v μ1 H1 g1 r1 e1 rv1 q1 => useA e1 r1 q1 fun ds S2 vs μ2 H2 g2 r2 e2 rv2 hl q2 => ?_
      exact hQ _ _ ⟨d :: ds, S2, μ2, g1.trans g2, r2, .cons (rv1.ext g2.ext) rv2, q2⟩ (by simp [hl])
theorem sPs : ∀ (cs : List CE) (ks : List Str) {X : Cx} {sc : SS} (keys : List (Option Expr)) (es : List Expr) (pos : Pos), Here T G k N X sc → okDs T N sc ks cs keys es = true →
    ∃ trs, PPs X pos keys es trs ∧ keys.all (·.isSome) = true ∧ ks.length = keys.length ∧ ks.length = es.length ∧
      ∀ η μ ρ S σ H QD (Q : List (V × V) → Hp → Prop), RE X.K H η μ ρ σ → Rp X.K η μ S H → wpEs G cs ρ S QD → (∀ ds vs S' μ' H', Grow μ H μ' H' → Rp X.K η μ' S' H' → RVs X.K H' η μ' ds vs → vs.length = ks.length → QD ds S' → Q ((ks.map V.str).zip vs) H') → tPairs trs σ H Q
  | [], ks, X, sc, keys, es, pos, hx, h => by
    match ks, keys, es, h with
    | [], [], [], _ =>
      refine ⟨[], pps_nil, rfl, rfl, rfl, fun η μ ρ S σ H QD Q hE hR hT hQ => ?_⟩
      simp only [wpEs] at hT
      exact hQ [] [] S μ H .refl hR .nil rfl hT
    | _ :: _, _, _, h => simp [okDs] at h
    | [], _ :: _, _, h => simp [okDs] at h
    | [], [], _ :: _, h => simp [okDs] at h
  | c :: cs, ks, X, sc, keys, es, pos, hx, h => by
    match ks, keys, es, h with
    | [], _, _, h => simp [okDs] at h
    | _ :: _, [], _, h => simp [okDs] at h
    | _ :: _, none :: _, _, h => simp [okDs] at h
    | _ :: _, some _ :: _, [], h => simp [okDs] at h
    | x :: ks, some kx :: keys, e :: es, h =>
      cases kx <;> first | (simp [okDs] at h; done) | skip
      rename_i cst kk kp
      cases cst <;> first | (simp [okDs] at h; done) | skip
      simp only [okDs, Bool.and_eq_true, beq_iff_eq] at h
      obtain ⟨⟨h1, h2⟩, h3⟩ := h
      subst h1
      obtain ⟨trs, P, hall, hl1, hl2, use'⟩ := sPs cs ks keys es pos hx h3
      refine ⟨_, pps_cons pe_str (sE c e hx h2) P, by simp [hall], by simp [hl1], by simp [hl2], fun η μ ρ S σ H QD Q hE hR hT hQ => ?_⟩
      simp only [wpEs] at hT
      refine use hE hR hT fun d S1 v μ1 H1 g1 r1 e1 rv1 q1 => use' η μ1 ρ S1 σ H1 _ _ e1 r1 q1 fun ds vs S' μ' H' g' r' rv' hl' q' => ?_
      exact hQ (d :: ds) (v :: vs) S' μ' H' (g1.trans g') r' (.cons (rv1.ext g'.ext) rv') (by simp [hl']) q'
theorem sKs : ∀ (cs : List CE) {X : Cx} {sc : SS} (ks : List Keyword), Here T G k N X sc → okKs T N sc cs ks = true → PK X ks (aOf X.K cs.length (wpEs G cs))
  | [], X, sc, es, hx, h => by
    cases es with
    | cons _ _ => simp [okKs] at h
    | nil =>
      refine PK.imp pk_nil fun σ H Q ⟨η, μ, ρ, S, QD, hE, hR, hT, hQ⟩ => ?_
      simp only [wpEs] at hT
      exact hQ [] H ⟨[], S, μ, .refl, hR, .nil, hT⟩ rfl
  | c :: cs, X, sc, es, hx, h => by
    cases es with
    | nil => simp [okKs] at h
    | cons e es =>
      obtain ⟨n, e, p⟩ := e
      simp only [okKs, Bool.and_eq_true] at h
      refine PK.imp (pk_cons (sE c e hx h.1.2) (sKs cs es hx h.2)) fun σ H Q ⟨η, μ, ρ, S, QD, hE, hR, hT, hQ⟩ => ?_
      simp only [wpEs] at hT
      refine use hE hR hT fun d S1 v μ1 H1 g1 r1 e1 rv1 q1 => useA e1 r1 q1 fun ds S2 vs μ2 H2 g2 r2 e2 rv2 hl q2 => ?_
      exact hQ _ _ ⟨d :: ds, S2, μ2, g1.trans g2, r2, .cons (rv1.ext g2.ext) rv2, q2⟩ (by simp [hl])
theorem sO : ∀ (c : CO) {X : Cx} {sc : SS} (e : Option Expr), Here T G k N X sc → okO T N sc c e = true → PO X e (bOf X.K (wpO G c))
  | .no, X, sc, e, hx, h => by
    cases e with
    | some _ => simp [okO] at h
    | none =>
      refine PO.imp po_none fun σ H Q ⟨η, μ, ρ, S, QD, hE, hR, hT, hQ⟩ => ?_
      simp only [wpO] at hT
      exact hQ none H ⟨S, μ, .refl, hR, hT⟩
  | .yes c, X, sc, e, hx, h => by
    cases e with
    | none => simp [okO] at h
    | some e =>
      simp only [okO] at h
      refine PO.imp (po_some (sE c e hx h)) fun σ H Q ⟨η, μ, ρ, S, QD, hE, hR, hT, hQ⟩ => ?_
      simp only [wpO] at hT
      refine use hE hR hT fun d S1 v μ1 H1 g1 r1 e1 rv1 q1 => ?_
      obtain ⟨i, rfl, q⟩ := q1
      cases rv1
      exact ⟨i, rfl, hQ _ _ ⟨S1, μ1, g1, r1, q⟩⟩
theorem sB : ∀ (c : CB) {X : Cx} {sc : SS} (e : Expr), Here T G k N X sc → okB T N sc c e = true → PT X e (bOf X.K (wpB G c))
  | .cand a b, X, sc, e, hx, h => by
    cases e <;> first | (simp [okB] at h; done) | skip
    rename_i op vs p
    match op, vs, h with
    | .And, a' :: b' :: r, h =>
      simp only [okB, Bool.and_eq_true] at h
      have hb : PW X (.BoolOp .And (b' :: r) p) (bOf X.K (wpB G b)) := by
        cases r with
        | nil => exact pw_and1 (sB b _ hx h.2)
        | cons c' r' => exact bool_ext (sB b _ hx h.2)
      refine PT.imp (pw_and (sB a _ hx h.1) hb).pt fun σ H Q ⟨η, μ, ρ, S, QD, hE, hR, hT, hQ⟩ => ?_
      simp only [wpB] at hT
      refine useB hE hR hT fun c S1 μ1 H1 g1 r1 e1 q1 => ?_
      cases c with
      | true =>
        simp only [if_true] at q1 ⊢
        exact ⟨_, _, _, _, _, e1, r1, q1, fun v H' ⟨S2, μ2, g2, r2, q2⟩ => hQ _ _ ⟨S2, μ2, g1.trans g2, r2, q2⟩⟩
      | false =>
        simp only [Bool.false_eq_true, if_false] at q1 ⊢
        exact hQ _ _ ⟨S1, μ1, g1, r1, q1⟩
    | .And, [], h => simp [okB] at h
    | .And, [_], h => simp [okB] at h
    | .Or, _, h => simp [okB] at h
  | .cor a b, X, sc, e, hx, h => by
    cases e <;> first | (simp [okB] at h; done) | skip
    rename_i op vs p
    match op, vs, h with
    | .Or, a' :: b' :: r, h =>
      simp only [okB, Bool.and_eq_true] at h
      have hb : PW X (.BoolOp .Or (b' :: r) p) (bOf X.K (wpB G b)) := by
        cases r with
        | nil => exact pw_or1 (sB b _ hx h.2)
        | cons c' r' => exact bool_ext (sB b _ hx h.2)
      refine PT.imp (pw_or (sB a _ hx h.1) hb).pt fun σ H Q ⟨η, μ, ρ, S, QD, hE, hR, hT, hQ⟩ => ?_
      simp only [wpB] at hT
      refine useB hE hR hT fun c S1 μ1 H1 g1 r1 e1 q1 => ?_
      cases c with
      | false =>
        simp only [Bool.false_eq_true, if_false] at q1 ⊢
        exact ⟨_, _, _, _, _, e1, r1, q1, fun v H' ⟨S2, μ2, g2, r2, q2⟩ => hQ _ _ ⟨S2, μ2, g1.trans g2, r2, q2⟩⟩
      | true =>
        simp only [if_true] at q1 ⊢
        exact hQ _ _ ⟨S1, μ1, g1, r1, q1⟩
    | .Or, [], h => simp [okB] at h
    | .Or, [_], h => simp [okB] at h
    | .And, _, h => simp [okB] at h
  | .cnot a, X, sc, e, hx, h => by
    cases e <;> first | (simp [okB] at h; done) | skip
    rename_i op x p
    cases op <;> first | (simp [okB] at h; done) | skip
    simp only [okB] at h
    refine PT.imp (pt_not (sB a _ hx h)) fun σ H Q ⟨η, μ, ρ, S, QD, hE, hR, hT, hQ⟩ => ?_
    simp only [wpB] at hT
    exact useB hE hR hT fun c S1 μ1 H1 g1 r1 e1 q1 => hQ _ _ ⟨S1, μ1, g1, r1, q1⟩
  | .ccmp op a b, X, sc, e, hx, h => by
    cases e <;> first | (simp [okB] at h; done) | skip
    rename_i l ops cs p
    match ops, cs, h with
    | [op'], [b'], h =>
      simp only [okB, Bool.and_eq_true, beq_iff_eq] at h
      obtain ⟨⟨h1, h2⟩, h3⟩ := h
      subst h1
      obtain ⟨r, ho, hr⟩ := cmpR (X := X) hx.room.units op
      refine PT.imp (pt_cmpR ho (sE a _ hx h2) (sE b _ hx h3) (mark_of h3)) fun σ H Q ⟨η, μ, ρ, S, QD, hE, hR, hT, hQ⟩ => ?_
      simp only [wpB] at hT
      refine use hE hR hT fun d S1 v μ1 H1 g1 r1 e1 rv1 q1 => use e1 r1 q1 fun d2 S2 v2 μ2 H2 g2 r2 e2 rv2 q2 => ?_
      exact hr r2 (rv1.ext g2.ext) rv2 q2 fun b hb => ⟨b, rfl, hQ _ _ ⟨S2, μ2, g1.trans g2, r2, hb⟩⟩
    | [], _, h => simp [okB] at h
    | [_], [], h => simp [okB] at h
    | [_], _ :: _ :: _, h => simp [okB] at h
    | _ :: _ :: _, _, h => simp [okB] at h
  | .cnil a b, X, sc, e, hx, h => by
    cases e <;> first | (simp [okB] at h; done) | skip
    rename_i l ops cs p
    match ops, cs, h with
    | [op'], [b'], h =>
      cases op' <;> first | (simp [okB] at h; done) | skip
      simp only [okB, Bool.and_eq_true] at h
      obtain ⟨h2, h3⟩ := h
      refine PT.imp (pt_cmpR (op_neNil hx.room.units) (sE a _ hx h2) (sE b _ hx h3) (mark_of h3)) fun σ H Q ⟨η, μ, ρ, S, QD, hE, hR, hT, hQ⟩ => ?_
      simp only [wpB] at hT
      refine use hE hR hT fun d S1 v μ1 H1 g1 r1 e1 rv1 q1 => use e1 r1 q1 fun d2 S2 v2 μ2 H2 g2 r2 e2 rv2 q2 => ?_
      obtain ⟨rfl, xs, ex, q⟩ := q2
      obtain ⟨a1, vs1, rfl, h5, q5⟩ := lst_of r2 (rv1.ext g2.ext) ex
      obtain ⟨a2, vs2, rfl, h6, q6⟩ := lst_of r2 rv2 rfl
      cases q6
      refine ⟨a1, a2, vs1, rfl, rfl, .inl (.inl h5), .inl (.inl h6), ⟨_, rfl, hQ _ _ ⟨S2, μ2, g1.trans g2, r2, ?_⟩⟩⟩
      have : xs.isEmpty = vs1.isEmpty := by cases q5 <;> rfl
      rw [← this]; exact q
    | [], _, h => simp [okB] at h
    | [_], [], h => simp [okB] at h
    | [_], _ :: _ :: _, h => simp [okB] at h
    | _ :: _ :: _, _, h => simp [okB] at h
  | .cchain op1 op2 a b c, X, sc, e, hx, h => by
    cases e <;> first | (simp [okB] at h; done) | skip
    rename_i l ops cs p
    match ops, cs, h with
    | [o1, o2], [b', c'], h =>
      simp only [okB, Bool.and_eq_true, beq_iff_eq] at h
      obtain ⟨⟨⟨⟨h1, h2⟩, h3⟩, h4⟩, h5⟩ := h
      subst h1; subst h2
      obtain ⟨r, ho, hr⟩ := cmpR (X := X) hx.room.units op1
      obtain ⟨r', ho', hr'⟩ := cmpR (X := X) hx.room.units op2
      refine PT.imp (pt_chain ho ho' (sE a _ hx h3) (sE b _ hx h4) (sE c _ hx h5) (by show behindInMarks op2 c' = false; exact mark_of h5)) fun σ H Q ⟨η, μ, ρ, S, QD, hE, hR, hT, hQ⟩ => ?_
      simp only [wpB] at hT
      refine use hE hR hT fun d S1 v μ1 H1 g1 r1 e1 rv1 q1 => use e1 r1 q1 fun d2 S2 v2 μ2 H2 g2 r2 e2 rv2 q2 => ?_
      refine hr r2 (rv1.ext g2.ext) rv2 q2 fun b hb => ⟨b, rfl, ?_⟩
      cases b with
      | true =>
        simp only [if_true] at hb ⊢
        refine use e2 r2 hb fun d3 S3 v3 μ3 H3 g3 r3 e3 rv3 q3 => ?_
        exact hr' r3 (rv2.ext g3.ext) rv3 q3 fun b hb => ⟨b, rfl, hQ _ _ ⟨S3, μ3, (g1.trans g2).trans g3, r3, hb⟩⟩
      | false =>
        simp only [Bool.false_eq_true, if_false] at hb ⊢
        exact ⟨false, rfl, hQ _ _ ⟨S2, μ2, g1.trans g2, r2, hb⟩⟩
    | [], _, h => simp [okB] at h
    | [_], _, h => simp [okB] at h
    | [_, _], [], h => simp [okB] at h
    | [_, _], [_], h => simp [okB] at h
    | [_, _], _ :: _ :: _ :: _, h => simp [okB] at h
    | _ :: _ :: _ :: _, _, h => simp [okB] at h
  | .cval c, X, sc, e, hx, h => by
    cases e <;> first | (simp [okB] at h; done) | skip
    all_goals
      simp only [okB] at h
      refine PT.imp (pt_truth (sE c _ hx h) (by intro _; rfl)) fun σ H Q ⟨η, μ, ρ, S, QD, hE, hR, hT, hQ⟩ => ?_
      simp only [wpB] at hT
      refine use hE hR hT fun d S1 v μ1 H1 g1 r1 e1 rv1 q1 => ?_
      obtain ⟨b, h1, h2⟩ := tru_of r1 rv1 q1
      exact ⟨b, h1, hQ _ _ ⟨S1, μ1, g1, r1, h2⟩⟩
theorem sBs : ∀ (cs : List CB) {X : Cx} {sc : SS} (es : List Expr), Here T G k N X sc → okBs T N sc cs es = true → cs.length ≤ 1 → PTs X es (bOf X.K (wpBs G cs))
  | [], X, sc, es, hx, h, _ => by
    cases es with
    | cons _ _ => simp [okBs] at h
    | nil =>
      refine PTs.imp pts_nil fun σ H Q ⟨η, μ, ρ, S, QD, hE, hR, hT, hQ⟩ => ?_
      simp only [wpBs] at hT
      exact hQ true H ⟨S, μ, .refl, hR, hT⟩
  | [c], X, sc, es, hx, h, _ => by
    cases es with
    | nil => simp [okBs] at h
    | cons e es =>
      cases es with
      | cons _ _ => simp [okBs] at h
      | nil =>
        simp only [okBs, Bool.and_true] at h
        refine PTs.imp (pts_one (sB c e hx h)) fun σ H Q ⟨η, μ, ρ, S, QD, hE, hR, hT, hQ⟩ => ?_
        simp only [wpBs] at hT
        refine useB hE hR hT fun b S1 μ1 H1 g1 r1 e1 q1 => hQ _ _ ⟨S1, μ1, g1, r1, ?_⟩
        cases b <;> exact q1
  | _ :: _ :: _, X, sc, es, hx, h, hl => by simp at hl
theorem sT : ∀ (t : CT) {X : Cx} {sc : SS} (e : Expr), Here T G k N X sc → okT T N sc t e = true → CT.simple t = true → PG X e (gS X.K t)
  | .name i, X, sc, e, hx, h, _ => by
    cases e <;> first | (simp [okT] at h; done) | skip
    simp only [okT, Bool.and_eq_true] at h
    obtain ⟨h1, h2⟩ := loc_of h.1
    refine pg_name (i := i) (by rw [hx.nm]; exact hx.nd) (by rw [hx.nm]; exact lits h.2) (by rw [hx.scp]; exact h1) ?_
    rcases h2 with h2 | h2
    · exact .inl (hx.fn _ h2)
    · exact .inr (by rw [hx.scp]; exact h2)
  | .tup ts, X, sc, e, hx, h, hs => by
    cases e <;> first | (simp [okT] at h; done) | skip
    simp only [okT] at h
    obtain ⟨a, b, c⟩ := sTs ts _ hx h hs
    exact pg_or (pg_tup hx.calm a b c) (pg_lst hx.calm a b c)
  | .sub _ _, X, sc, e, hx, h, hs => by simp [CT.simple] at hs
  | .dsub _ _, X, sc, e, hx, h, hs => by simp [CT.simple] at hs
  | .ksub _ _, X, sc, e, hx, h, hs => by simp [CT.simple] at hs
  | .kput _ _, X, sc, e, hx, h, hs => by simp [CT.simple] at hs
theorem sTs : ∀ (ts : List CT) {X : Cx} {sc : SS} (es : List Expr), Here T G k N X sc → okTs T N sc ts es = true → CT.simple.simples ts = true → PGs X es (gSs X.K ts) ∧ (assignEach es X.env).length = ts.length ∧ (assignEach es X.env).findIdx? (·.1) = none
  | [], X, sc, es, hx, h, _ => by
    cases es with
    | cons _ _ => simp [okTs] at h
    | nil => exact ⟨pgs_nil, rfl, rfl⟩
  | t :: ts, X, sc, es, hx, h, hs => by
    cases es with
    | nil => simp [okTs] at h
    | cons e es =>
      simp only [okTs, Bool.and_eq_true] at h
      simp only [CT.simple.simples, Bool.and_eq_true] at hs
      obtain ⟨a, b, c⟩ := sTs ts es hx h.2 hs.2
      have he : assignEach (e :: es) X.env = (false, assign e X.env) :: assignEach es X.env := by
        cases e <;> first | rfl | (exfalso; cases t <;> simp [okT] at h)
      refine ⟨pgs_cons (sT t e hx h.1 hs.1) a (by rw [he]; rfl), by rw [he]; simp [b], ?_⟩
      rw [he, List.findIdx?_cons]
      simp [c]
theorem sI : ∀ (c : CI) {X : Cx} {sc : SS} (tg e : Expr), Here T G k N X sc → okI T N sc c e = true → (c.pairs = true → isTupE tg = true) → PI X tg e (iOf X.K (wpI G c))
  | .seq c, X, sc, tg, e, hx, h, _ => by
    simp only [okI] at h
    refine PI.imp (pi_seq (sE c e hx h)) fun σ H R ⟨η, μ, ρ, S, RD, hE, hR, hT, hJ⟩ => ?_
    simp only [wpI] at hT
    refine use hE hR hT fun d S1 v μ1 H1 g1 r1 e1 rv1 q1 => ?_
    exact seq_it r1 rv1 q1 fun J items I q jok => hJ J H1 items I S1 μ1 g1 r1 q jok
  | .keys c, X, sc, tg, e, hx, h, _ => by
    simp only [okI] at h
    refine PI.imp (pi_keys (sE c e hx h)) fun σ H R ⟨η, μ, ρ, S, RD, hE, hR, hT, hJ⟩ => ?_
    simp only [wpI] at hT
    refine use hE hR hT fun d S1 v μ1 H1 g1 r1 e1 rv1 q1 => ?_
    obtain ⟨n, kvs, rfl, hc, q⟩ := q1
    cases rv1 with
    | @ref n a hn =>
      obtain ⟨a', ha', ob, vs, hv, qk⟩ := r1.cell n _ hc
      rw [hn] at ha'; cases ha'
      exact ⟨a, ob, rfl, .inr ⟨vs, hv, hJ _ H1 _ _ S1 μ1 g1 r1 q (jok_keys hv qk)⟩⟩
  | .range1 a, X, sc, tg, e, hx, h, _ => by
    cases e <;> first | (simp [okI] at h; done) | skip
    rename_i f as ks p
    cases f <;> first | (simp [okI] at h; done) | skip
    match as, ks, h with
    | [a'], [], h =>
      simp only [okI, Bool.and_eq_true, beq_iff_eq] at h
      obtain ⟨⟨⟨h1, h2⟩, h3⟩, h4⟩ := h
      subst h1
      refine PI.imp (pi_range1 (gl_of hx h2) (hx.tab.bi _ (by simpa using h3)) (pa1 (sE a a' hx h4) (star_of h4)) (by rw [star_of h4]; rfl)) fun σ H R ⟨η, μ, ρ, S, RD, hE, hR, hT, hJ⟩ => ?_
      simp only [wpI] at hT
      refine useA (QD := fun ds S1 => ∃ j, ds.headD .non = .int j ∧ Sm j ∧ RD (rangeD 0 j) (fun _ => True) S1) hE hR hT fun ds S1 vs μ1 H1 g1 r1 e1 rv1 hl q1 => ?_
      obtain ⟨d, v, rfl, rfl, rv⟩ := one_of rv1 hl
      obtain ⟨j, e0, s, q⟩ := q1
      rw [List.headD_cons] at e0
      subst e0
      cases rv
      exact ⟨j, rfl, s.1, s.2, hJ _ H1 _ _ S1 μ1 g1 r1 q (jok_range (by simp))⟩
    | [], _, h => simp [okI] at h
    | _ :: _ :: _, _, h => simp [okI] at h
    | [_], _ :: _, h => simp [okI] at h
  | .range2 a b, X, sc, tg, e, hx, h, _ => by
    cases e <;> first | (simp [okI] at h; done) | skip
    rename_i f as ks p
    cases f <;> first | (simp [okI] at h; done) | skip
    match as, ks, h with
    | [a', b'], [], h =>
      simp only [okI, Bool.and_eq_true, beq_iff_eq] at h
      obtain ⟨⟨⟨⟨h1, h2⟩, h3⟩, h4⟩, h5⟩ := h
      subst h1
      refine PI.imp (pi_range2 (gl_of hx h2) (hx.tab.bi _ (by simpa using h3)) (pa2 (sE a a' hx h4) (sE b b' hx h5) (star_of h4) (star_of h5)) (by rw [star_of h4, star_of h5]; rfl) (by rw [star_of h5]; rfl)) fun σ H R ⟨η, μ, ρ, S, RD, hE, hR, hT, hJ⟩ => ?_
      simp only [wpI] at hT
      refine useA (QD := fun ds S1 => ∃ i j, ds.headD .non = .int i ∧ ds.tail.headD .non = .int j ∧ Sm i ∧ Sm j ∧ RD (rangeD i j) (fun _ => True) S1) hE hR hT fun ds S1 vs μ1 H1 g1 r1 e1 rv1 hl q1 => ?_
      obtain ⟨d, d', v, v', rfl, rfl, rv, rv2⟩ := two_of rv1 hl
      obtain ⟨i, j, e0, e2, s, s2, q⟩ := q1
      rw [List.headD_cons] at e0
      rw [List.tail_cons, List.headD_cons] at e2
      subst e0; subst e2
      cases rv; cases rv2
      exact ⟨i, j, rfl, ⟨s.1, s.2, s2.1, s2.2⟩, hJ _ H1 _ _ S1 μ1 g1 r1 q (jok_range rfl)⟩
    | [], _, h => simp [okI] at h
    | [_], _, h => simp [okI] at h
    | _ :: _ :: _ :: _, _, h => simp [okI] at h
    | [_, _], _ :: _, h => simp [okI] at h
  | .range3 a b c, X, sc, tg, e, hx, h, _ => by
    cases e <;> first | (simp [okI] at h; done) | skip
    rename_i f as ks p
    cases f <;> first | (simp [okI] at h; done) | skip
    match as, ks, h with
    | [a', b', c'], [], h =>
      simp only [okI, Bool.and_eq_true, beq_iff_eq] at h
      obtain ⟨⟨⟨⟨⟨h1, h2⟩, h3⟩, h4⟩, h5⟩, h6⟩ := h
      subst h1
      refine PI.imp (pi_range3 (gl_of hx h2) (hx.tab.bi _ (by simpa using h3)) (pa_cons (sE a a' hx h4) (pa_cons (sE b b' hx h5) (pa_cons (sE c c' hx h6) pa_nil (star_of h6)) (star_of h5)) (star_of h4)) (star_of h4) (by rw [star_of h5, star_of h6]; rfl)) fun σ H R ⟨η, μ, ρ, S, RD, hE, hR, hT, hJ⟩ => ?_
      simp only [wpI] at hT
      refine use hE hR hT fun d S1 v μ1 H1 g1 r1 e1 rv1 q1 => use e1 r1 q1 fun d2 S2 v2 μ2 H2 g2 r2 e2 rv2 q2 => use e2 r2 q2 fun d3 S3 v3 μ3 H3 g3 r3 e3 rv3 q3 => ?_
      obtain ⟨i, j, l, n, rfl, rfl, rfl, hr, q⟩ := q3
      cases rv1; cases rv2; cases rv3
      exact ⟨i, j, l, n, rfl, hr, hJ _ H3 _ _ S3 μ3 ((g1.trans g2).trans g3) r3 q jok_rangeC⟩
    | [], _, h => simp [okI] at h
    | [_], _, h => simp [okI] at h
    | [_, _], _, h => simp [okI] at h
    | _ :: _ :: _ :: _ :: _, _, h => simp [okI] at h
    | [_, _, _], _ :: _, h => simp [okI] at h
  | .kkeys c, X, sc, tg, e, hx, h, _ => by
    simp only [okI] at h
    refine PI.imp (pi_keys (sE c e hx h)) fun σ H R ⟨η, μ, ρ, S, RD, hE, hR, hT, hJ⟩ => ?_
    simp only [wpI] at hT
    refine use hE hR hT fun d S1 v μ1 H1 g1 r1 e1 rv1 q1 => ?_
    obtain ⟨n, kvs, rfl, hc, q⟩ := q1
    cases rv1 with
    | @ref n a hn =>
      obtain ⟨a', ha', ob, vs, hv, qk⟩ := r1.cell n _ hc
      rw [hn] at ha'; cases ha'
      exact ⟨a, ob, rfl, .inl ⟨vs, hv, hJ _ H1 _ _ S1 μ1 g1 r1 q (jok_kkeys hv qk)⟩⟩
  | .kitems c, X, sc, tg, e, hx, h, ht => by
    cases e <;> first | (simp [okI] at h; done) | skip
    rename_i f as ks p
    cases f <;> first | (simp [okI] at h; done) | skip
    rename_i o m ap
    cases tg <;> first | (exfalso; have hz := ht rfl; simp [isTupE] at hz; done) | skip
    match as, ks, h with
    | [], [], h =>
      simp only [okI, Bool.and_eq_true, beq_iff_eq] at h
      obtain ⟨⟨⟨h1, h2⟩, h3⟩, h4⟩ := h
      subst h1
      refine PI.imp (pi_items (sE c o hx h3) (base_of h4) (by simpa using h2)) fun σ H R ⟨η, μ, ρ, S, RD, hE, hR, hT, hJ⟩ => ?_
      simp only [wpI] at hT
      refine use hE hR hT fun d S1 v μ1 H1 g1 r1 e1 rv1 q1 => ?_
      obtain ⟨n, kvs, rfl, hc, q⟩ := q1
      cases rv1 with
      | @ref n a hn =>
        obtain ⟨a', ha', ob, vs, hv, qk⟩ := r1.cell n _ hc
        rw [hn] at ha'; cases ha'
        exact ⟨a, ob, vs, rfl, hv, hJ _ H1 _ _ S1 μ1 g1 r1 q (jok_kitems hv qk)⟩
    | _ :: _, _, h => simp [okI] at h
    | [], _ :: _, h => simp [okI] at h
  | .items c, X, sc, tg, e, hx, h, ht => by
    cases e <;> first | (simp [okI] at h; done) | skip
    rename_i f as ks p
    cases f <;> first | (simp [okI] at h; done) | skip
    rename_i o m ap
    cases tg <;> first | (exfalso; have hz := ht rfl; simp [isTupE] at hz; done) | skip
    match as, ks, h with
    | [], [], h =>
      simp only [okI, Bool.and_eq_true, beq_iff_eq] at h
      obtain ⟨⟨⟨h1, h2⟩, h3⟩, h4⟩ := h
      subst h1
      refine PI.imp (pi_itemsT (sE c o hx h3) (base_of h4) (by simpa using h2)) fun σ H R ⟨η, μ, ρ, S, RD, hE, hR, hT, hJ⟩ => ?_
      simp only [wpI] at hT
      refine use hE hR hT fun d S1 v μ1 H1 g1 r1 e1 rv1 q1 => ?_
      obtain ⟨n, kvs, rfl, hc, q⟩ := q1
      cases rv1 with
      | @ref n a hn =>
        obtain ⟨a', ha', ob, vs, hv, qk⟩ := r1.cell n _ hc
        rw [hn] at ha'; cases ha'
        exact ⟨a, ob, vs, rfl, hv, hJ _ H1 _ _ S1 μ1 g1 r1 q (jok_items hv qk)⟩
    | _ :: _, _, h => simp [okI] at h
    | [], _ :: _, h => simp [okI] at h
  | .enum a, X, sc, tg, e, hx, h, ht => by
    cases e <;> first | (simp [okI] at h; done) | skip
    rename_i f as ks p
    cases f <;> first | (simp [okI] at h; done) | skip
    cases tg <;> first | (exfalso; have hz := ht rfl; simp [isTupE] at hz; done) | skip
    match as, ks, h with
    | [a'], [], h =>
      simp only [okI, Bool.and_eq_true, beq_iff_eq] at h
      obtain ⟨⟨⟨h1, h2⟩, h3⟩, h4⟩ := h
      subst h1
      refine PI.imp (pi_enumA (gl_of hx h2) (hx.tab.bi _ (by simpa using h3)) (pa_cons (sE a a' hx h4) pa_nil (star_of h4)) (star_of h4)) fun σ H R ⟨η, μ, ρ, S, RD, hE, hR, hT, hJ⟩ => ?_
      simp only [wpI] at hT
      refine use hE hR hT fun d S1 v μ1 H1 g1 r1 e1 rv1 q1 => ?_
      exact enum_it r1 rv1 q1 fun J items I q jok => hJ J H1 items I S1 μ1 g1 r1 q jok
    | [], _, h => simp [okI] at h
    | _ :: _ :: _, _, h => simp [okI] at h
    | [_], _ :: _, h => simp [okI] at h
  | .zip3 a b c, X, sc, tg, e, hx, h, ht => by
    cases e <;> first | (simp [okI] at h; done) | skip
    rename_i f as ks p
    cases f <;> first | (simp [okI] at h; done) | skip
    cases tg <;> first | (exfalso; have hz := ht rfl; simp [isTupE] at hz; done) | skip
    match as, ks, h with
    | [a', b', c'], [], h =>
      simp only [okI, Bool.and_eq_true, beq_iff_eq] at h
      obtain ⟨⟨⟨⟨⟨h1, h2⟩, h3⟩, h4⟩, h5⟩, h6⟩ := h
      subst h1
      refine PI.imp (pi_zipM3 (gl_of hx h2) (hx.tab.bi _ (by simpa using h3)) (pa_cons (sE a a' hx h4) (pa_cons (sE b b' hx h5) (pa_cons (sE c c' hx h6) pa_nil (star_of h6)) (star_of h5)) (star_of h4)) (star_of h4) (by rw [star_of h5, star_of h6]; rfl)) fun σ H R ⟨η, μ, ρ, S, RD, hE, hR, hT, hJ⟩ => ?_
      simp only [wpI] at hT
      refine use hE hR hT fun d S1 v μ1 H1 g1 r1 e1 rv1 q1 => use e1 r1 q1 fun d2 S2 v2 μ2 H2 g2 r2 e2 rv2 q2 => use e2 r2 q2 fun d3 S3 v3 μ3 H3 g3 r3 e3 rv3 q3 => ?_
      exact zip3_it r3 ((rv1.ext g2.ext).ext g3.ext) (rv2.ext g3.ext) rv3 q3 fun J items I q jok => hJ J H3 items I S3 μ3 ((g1.trans g2).trans g3) r3 q jok
    | [], _, h => simp [okI] at h
    | [_], _, h => simp [okI] at h
    | [_, _], _, h => simp [okI] at h
    | _ :: _ :: _ :: _ :: _, _, h => simp [okI] at h
    | [_, _, _], _ :: _, h => simp [okI] at h
  | .zip2 a b, X, sc, tg, e, hx, h, ht => by
    cases e <;> first | (simp [okI] at h; done) | skip
    rename_i f as ks p
    cases f <;> first | (simp [okI] at h; done) | skip
    cases tg <;> first | (exfalso; have hz := ht rfl; simp [isTupE] at hz; done) | skip
    match as, ks, h with
    | [a', b'], [], h =>
      simp only [okI, Bool.and_eq_true, beq_iff_eq] at h
      obtain ⟨⟨⟨⟨h1, h2⟩, h3⟩, h4⟩, h5⟩ := h
      subst h1
      refine PI.imp (pi_zipM (gl_of hx h2) (hx.tab.bi _ (by simpa using h3)) (pa_cons (sE a a' hx h4) (pa_cons (sE b b' hx h5) pa_nil (star_of h5)) (star_of h4)) (star_of h4) (by rw [star_of h5]; rfl)) fun σ H R ⟨η, μ, ρ, S, RD, hE, hR, hT, hJ⟩ => ?_
      simp only [wpI] at hT
      refine use hE hR hT fun d S1 v μ1 H1 g1 r1 e1 rv1 q1 => use e1 r1 q1 fun d2 S2 v2 μ2 H2 g2 r2 e2 rv2 q2 => ?_
      exact zip_it r2 (rv1.ext g2.ext) rv2 q2 fun J items I q jok => hJ J H2 items I S2 μ2 (g1.trans g2) r2 q jok
    | [], _, h => simp [okI] at h
    | [_], _, h => simp [okI] at h
    | _ :: _ :: _ :: _, _, h => simp [okI] at h
    | [_, _], _ :: _, h => simp [okI] at h
end
end
end DL

set_option maxHeartbeats 4000000
namespace DL
open PySem PySem.Spec PyProof.Rows L2
section
variable {T : Tb} {G : Fns} {k : Nat} {N : List Str}
def rSetK : V → V → V → Hp → (Hp → Prop) → Prop := fun o i v H Q => ∃ (a : Addr) (kvs : List (L2.Key × V)) (ks : L2.Key), o = .ref a ∧ i = kV ks ∧ H a = some (.dK kvs) ∧ kvs.length < sizeLine ∧ Q (upd H a (.dK (putK kvs ks v)))
theorem set_dictK {X : Cx} (hu : X.A.units + 1 < cLine) : PSet X rSetK := by
  intro pins s σ H o i v ov iv u Q I ro ri rv h
  obtain ⟨a, kvs, ks, rfl, rfl, ha, hl, q⟩ := h
  cases ro
  exact d_setItem hu I (.k ha hl) ri rv fun s' I' => ⟨_, I', q⟩
theorem okT_dsub {sc : SS} {a : CE} {es : List CE} {e : Expr} (h : okT T N sc (.dsub a es) e = true) : ∃ o i b c p, e = .Subscript o (.Tuple i b c) p ∧ okE T N sc a o = true ∧ okEs T N sc es i = true ∧ es.length ≤ 1000 := by
  cases e <;> first | (simp [okT] at h; done) | skip
  rename_i o i p
  cases i <;> first | (simp [okT] at h; done) | skip
  simp only [okT, Bool.and_eq_true, decide_eq_true_eq] at h
  exact ⟨_, _, _, _, _, rfl, h.1.1, h.1.2, h.2⟩
theorem dsub_run {K : PySem.W.Frag} {η μ : List Addr} {S : DStore} {H : Hp} {G : Fns} {a : CE} {es : List CE} {d : D} {v : V} {ρ : DEnv} {σ : L2.St} {QD : DEnv → DStore → Prop} {Q : L2.St → Hp → Prop} (hE : RE K H η μ ρ σ) (hR : Rp K η μ S H) (rv : RV K H η μ d v) (hT : wpG G (.dsub a es) d ρ S QD) (hlen : es.length ≤ 1000)
    (hQ : ∀ S' μ' H', Grow μ H μ' H' → Rp K η μ' S' H' → RE K H' η μ' ρ σ → QD ρ S' → Q σ H') : gSub (tOf K (wpE G a)) (tTup (aOf K es.length (wpEs G es))) rSetD v σ H Q := by
  simp only [wpG] at hT
  refine use hE hR hT fun d2 S2 v2 μ2 H2 g2 r2 e2 rv2 q2 => useA e2 r2 q2 fun ys S3 vs μ3 H3 g3 r3 e3 rv3 hl q3 => ⟨?_, fun p hp => ?_⟩
  · have : (1000 : Nat) ≤ sizeLine := by decide
    omega
  obtain ⟨n, kvs, ks, rfl, ec, hk, hlen, q⟩ := q3
  have g4 := grow_new (o := .tup vs) r3 hp
  have r4 := rp_new (o := .tup vs) r3 hp
  have eb : vs = ks.map kV := keysOf_rv rv3 hk
  have rv2' := (rv2.ext (η' := η) g3.ext).ext (η' := η) g4.ext
  cases rv2' with
  | @ref n a1 hn =>
    obtain ⟨a', ha', ws, hw, qs⟩ := r4.cell n _ ec
    rw [hn] at ha'; cases ha'
    have rv1' := ((rv.ext (η' := η) g2.ext).ext (η' := η) g3.ext).ext (η' := η) g4.ext
    have qp := qs.put (k := ks) rv1'
    refine ⟨a1, p, ws, ks, rfl, rfl, hw, by rw [← eb]; exact upd_same, by rw [← qs.length]; exact hlen, ?_⟩
    have gg := grow_set (o := .dT (putK ws ks v)) r4 hn hw
    exact hQ _ _ _ (((g2.trans g3).trans g4).trans gg) (rp_setD r4 hn hw qp) ((e3.ext g4.ext).ext gg.ext) q
theorem dsub3_run {K : PySem.W.Frag} {η μ : List Addr} {S : DStore} {H : Hp} {G : Fns} {a1 a2 a3 : CE} {k1 k2 k3 : List CE} {ds : List D} {vs : List V} {ρ : DEnv} {σ : L2.St} {QD : DEnv → DStore → Prop} {Q : L2.St → Hp → Prop} (hE : RE K H η μ ρ σ) (hR : Rp K η μ S H) (rv : RVs K H η μ ds vs) (hT : wpGs G [.dsub a1 k1, .dsub a2 k2, .dsub a3 k3] ds ρ S QD) (hl : ds.length = 3)
    (l1 : k1.length ≤ 1000) (l2 : k2.length ≤ 1000) (l3 : k3.length ≤ 1000) (hQ : ∀ S' μ' H', Grow μ H μ' H' → Rp K η μ' S' H' → RE K H' η μ' ρ σ → QD ρ S' → Q σ H') :
    gCons (gSub (tOf K (wpE G a1)) (tTup (aOf K k1.length (wpEs G k1))) rSetD) (gCons (gSub (tOf K (wpE G a2)) (tTup (aOf K k2.length (wpEs G k2))) rSetD) (gCons (gSub (tOf K (wpE G a3)) (tTup (aOf K k3.length (wpEs G k3))) rSetD) gNil)) vs σ H Q := by
  match ds, rv, hl with
  | [x, y, z], .cons rx (.cons ry (.cons rz .nil)), _ =>
    simp only [wpGs] at hT
    obtain ⟨_, _, e, hT⟩ := hT
    cases e
    refine ⟨_, _, rfl, dsub_run hE hR rx hT l1 fun S1 μ1 H1 g1 r1 e1 q1 => ?_⟩
    obtain ⟨_, _, e, q1⟩ := q1
    cases e
    refine ⟨_, _, rfl, dsub_run e1 r1 (ry.ext g1.ext) q1 l2 fun S2 μ2 H2 g2 r2 e2 q2 => ?_⟩
    obtain ⟨_, _, e, q2⟩ := q2
    cases e
    refine ⟨_, _, rfl, dsub_run e2 r2 ((rz.ext g1.ext).ext g2.ext) q2 l3 fun S3 μ3 H3 g3 r3 e3 q3 => ?_⟩
    exact ⟨rfl, hQ _ _ _ ((g1.trans g2).trans g3) r3 e3 q3⟩
theorem asg1_of {sc : SS} {t : CT} {e : Expr} {env : Env} (h : okT T N sc t e = true) : (assignEach [e] env).map (·.2) = [assign e env] := by
  cases e <;> first | rfl | (exfalso; cases t <;> simp [okT] at h)
theorem ps_setDc {X : Cx} {i : Nat} {y : Str} {py : Pos} {kx vx tg iter : Expr} {ifs : List Expr} {scope : Scope} {own : List (Str × Nat)} {pos spos : Pos} {wi : TI} {g : TG} {tt : TT} {tk tv : TE} (hc : X.calm = true) (hN : X.N.Nodup) (hy : X.N[i]? = some y) (hyl : X.env.scope.names.lookup y = some .local)
    (hsw : swapsWith (.DictComp kx vx [⟨tg, iter, ifs, 0⟩] scope pos) (some (.Name y py)) spos.line X.env = pure true) (hi : PI X tg iter wi) (ok : BlkOk X.N X.env.scope scope own)
    (hg : ∀ (s : Shared) (H : Hp) (C : Addr) (cl : List (Str × Addr)) (fp : List Addr), PG (X.blk s H scope (compEnvC scope cl C X.env) fp) tg g) (ht : ∀ (s : Shared) (H : Hp) (C : Addr) (cl : List (Str × Addr)) (fp : List Addr), PTs (X.blk s H scope (compEnvC scope cl C X.env) fp) ifs tt)
    (hk : ∀ (s : Shared) (H : Hp) (C : Addr) (cl : List (Str × Addr)) (fp : List Addr), PE (X.blk s H scope (compEnvC scope cl C X.env) fp) kx tk)
    (he : ∀ (s : Shared) (H : Hp) (C : Addr) (cl : List (Str × Addr)) (fp : List Addr), PE (X.blk s H scope (compEnvC scope cl C X.env) fp) vx tv) (hs : ∀ x, foldedSetIterable iter X.env x = pure x) :
    PS X (.Assign [.Name y py] (.DictComp kx vx [⟨tg, iter, ifs, 0⟩] scope pos) spos) (tAsg (tDc wi g tt tk tv (own.map (·.2))) (gName i)) := by
  refine ⟨fun pins s σ H D I h => ?_⟩
  rw [exec_Assign_Name_used _ _ _ _ hsw]
  refine wpAny_bind (wpAny_standAt (wpAny_bind ?_))
  show wpAny _ X.A (do let _ ← comprehension (.DictComp kx vx [⟨tg, iter, ifs, 0⟩] scope pos) scope X.env (firstIterPos [⟨tg, iter, ifs, 0⟩] pos) newDict false (eval iter X.env) (some (assign (.Name y py) X.env))) _ _ s
  have h : tDc wi g tt tk tv (own.map (·.2)) σ H (fun x H1 => gName i x σ H1 D.nx) := h
  refine wpAny_bind (thn (dc_core (Qf := fun _ s' => SP X pins D .next s') hc hN I hi ok hg ht hk he hs h fun L C s' m H' I' q hn f => ?_) fun _ s' hq => wpAny_pure (wpAny_pure hq))
  show wpAny _ _ (assign (.Name y py) X.env (.ref L)) _ _ _
  refine wpAny_assign_Name (store_ok2 (v := V.ref L) I' hN hy (.inl hyl) rfl (fun s2 I2 ⟨a, sb, ha⟩ => ?_) (.inr hyl))
  obtain ⟨f0, f1, f2, f3, f4, f5⟩ := f
  have haC : C ≠ a := by
    rcases ha with z | z
    · rw [z]; exact f1
    · exact fun e => f4 y a z e.symm
  refine ⟨m, hn.sameBut sb haC, fun h3 sb3 => ?_⟩
  exact ⟨_, H', I2.turned (t' := s2.toks) (fun b o hb e => (sb3.2 b hb).trans e) f0 f1 f3 f4 f5, q⟩
theorem sw_trueD {kx vx : Expr} {gs : List Comprehension} {scope : Scope} {pos py : Pos} {y : Str} {l : Nat} {env : Env} (hk : env.scope.kind = .function) (hy : env.scope.names.lookup y = some .local) (hl : (py.line == pos.line) = true)
    (ha : (scope.names.any fun (n, k) => n == y && (k == .local || k == .cell)) = false) : swapsWith (.DictComp kx vx gs scope pos) (some (.Name y py)) l env = pure true := by
  have ky : env.kindOf y = some .local := hy
  have hb : env.blockKind = .function := by unfold Env.blockKind; rw [hk]; rfl
  unfold swapsWith
  simp only [hb, ky, ha, Expr.pos, hl]
  rfl
theorem swapsS_of {e t : Expr} {l : Nat} {env : Env} (h : (notComp e || notNm t) = true) : swapsWithSole [t] e l env = pure false := by
  show swapsWith e (some t) l env = pure false
  have h' : notComp e = true ∨ notNm t = true := by simpa using h
  rcases h' with h1 | h1
  · exact swaps_of h1
  · cases t <;> first | (simp [notNm] at h1; done) | (cases e <;> rfl)
theorem pa3 {X : Cx} {e e' e3 : Expr} {T T' T3 : TD} (h : PE X e (tOf X.K T)) (h' : PE X e' (tOf X.K T')) (h3 : PE X e3 (tOf X.K T3)) (hs : starEach [e, e', e3] X.env = (false, eval e X.env) :: starEach [e', e3] X.env) (hs' : starEach [e', e3] X.env = (false, eval e' X.env) :: starEach [e3] X.env)
    (hs3 : starEach [e3] X.env = (false, eval e3 X.env) :: starEach [] X.env) :
    PA X [e, e', e3] (aOf X.K 3 (fun ρ S Q => T ρ S fun d S1 => T' ρ S1 fun d' S2 => T3 ρ S2 fun d3 S3 => Q [d, d', d3] S3)) :=
  PA.imp (pa_cons h (pa_cons h' (pa_cons h3 pa_nil hs3) hs') hs) fun σ H Q ⟨η, μ, ρ, S, QD, hE, hR, hT, hQ⟩ => use hE hR hT fun d S1 v μ1 H1 g1 r1 e1 rv1 q1 => use e1 r1 q1 fun d2 S2 v2 μ2 H2 g2 r2 e2 rv2 q2 => use e2 r2 q2 fun d3 S3 v3 μ3 H3 g3 r3 e3 rv3 q3 =>
    hQ _ _ ⟨[d, d2, d3], S3, μ3, (g1.trans g2).trans g3, r3, .cons ((rv1.ext g2.ext).ext g3.ext) (.cons (rv2.ext g3.ext) (.cons rv3 .nil)), q3⟩ rfl
theorem three_of {ds : List D} {vs : List V} {K : PySem.W.Frag} {H : Hp} {η μ : List Addr} (r : RVs K H η μ ds vs) (h : vs.length = 3) : ∃ d d' d3 v v' v3, ds = [d, d', d3] ∧ vs = [v, v', v3] ∧ RV K H η μ d v ∧ RV K H η μ d' v' ∧ RV K H η μ d3 v3 := by
  cases r with
  | nil => simp at h
  | cons a b =>
    obtain ⟨d, d', v, v', rfl, rfl, r, r'⟩ := two_of b (by simpa using h)
    exact ⟨_, _, _, _, _, _, rfl, rfl, a, r, r'⟩
theorem aug_ip {X : Cx} (op : Operator) : ∃ ti, PIp X op ti ∧ ∀ {K η μ S H x y v u} {F : Int → D → DStore → Prop} {Q : VK}, Rp K η μ S H → RV K H η μ x v → RV K H η μ y u →
    (i2 x y fun a b => match op with
      | .Add => F 0 (.int (a + b)) S
      | .Sub => F 0 (.int (a - b)) S
      | _ => False) → (∀ i, F 0 (.int i) S → Q (.int i) H) → ti v u H Q := by
  cases op
  case Add => exact ⟨_, ip_add, fun r rx ry h hQ => by
    cases rx <;> cases ry <;> simp only [i2] at h
    exact ⟨_, _, rfl, rfl, hQ _ h⟩⟩
  case Sub => exact ⟨_, ip_sub, fun r rx ry h hQ => by
    cases rx <;> cases ry <;> simp only [i2] at h
    exact ⟨_, _, rfl, rfl, hQ _ h⟩⟩
  all_goals exact ⟨fun _ _ _ _ => False, fun _ _ _ _ _ _ _ _ _ _ _ _ h => h.elim, fun r rx ry h hQ => by
    cases rx <;> cases ry <;> simp only [i2] at h⟩
set_option maxHeartbeats 4000000 in
mutual
theorem sS : ∀ (c : CS) {X : Cx} {sc : SS} (st : Stmt), Here T G k N X sc → okS T N sc c st = true → PS X st (sOf X.K (wpS G c))
  | .expr e, X, sc, st, hx, h => by
    cases st <;> first | (simp [okS] at h; done) | skip
    simp only [okS, Bool.and_eq_true] at h
    refine PS.imp (ps_expr (sE e _ hx h.1) (swaps_of h.2)) fun E σ H ⟨η, μ, ρ, S, ED, hE, hR, hT, hQ⟩ => ?_
    simp only [wpS] at hT
    exact use hE hR hT fun d S1 v μ1 H1 g1 r1 e1 rv1 q1 => hQ.nx _ _ _ _ _ g1 r1 e1 q1
  | .ret e, X, sc, st, hx, h => by
    cases st <;> first | (simp [okS] at h; done) | skip
    rename_i o p
    cases o <;> first | (simp [okS] at h; done) | skip
    simp only [okS] at h
    refine PS.imp (ps_ret (sE e _ hx h)) fun E σ H ⟨η, μ, ρ, S, ED, hE, hR, hT, hQ⟩ => ?_
    simp only [wpS] at hT
    exact use hE hR hT fun d S1 v μ1 H1 g1 r1 e1 rv1 q1 => hQ.rt _ _ _ _ _ g1 r1 rv1 q1
  | .retN, X, sc, st, hx, h => by
    cases st <;> first | (simp [okS] at h; done) | skip
    rename_i o p
    cases o <;> first | (simp [okS] at h; done) | skip
    refine PS.imp ps_retN fun E σ H ⟨η, μ, ρ, S, ED, hE, hR, hT, hQ⟩ => ?_
    simp only [wpS] at hT
    exact hQ.rt _ _ _ _ _ .refl hR .non hT
  | .pass, X, sc, st, hx, h => by
    cases st <;> first | (simp [okS] at h; done) | skip
    refine PS.imp ps_pass fun E σ H ⟨η, μ, ρ, S, ED, hE, hR, hT, hQ⟩ => ?_
    simp only [wpS] at hT
    exact hQ.nx _ _ _ _ _ .refl hR hE hT
  | .brk, X, sc, st, hx, h => by
    cases st <;> first | (simp [okS] at h; done) | skip
    refine PS.imp ps_break fun E σ H ⟨η, μ, ρ, S, ED, hE, hR, hT, hQ⟩ => ?_
    simp only [wpS] at hT
    exact hQ.bk _ _ _ _ _ .refl hR hE hT
  | .cont, X, sc, st, hx, h => by
    cases st <;> first | (simp [okS] at h; done) | skip
    refine PS.imp ps_continue fun E σ H ⟨η, μ, ρ, S, ED, hE, hR, hT, hQ⟩ => ?_
    simp only [wpS] at hT
    exact hQ.ct _ _ _ _ _ .refl hR hE hT
  | .never, X, sc, st, hx, h => by
    refine PS.imp ps_never fun E σ H ⟨η, μ, ρ, S, ED, hE, hR, hT, hQ⟩ => ?_
    simp only [wpS] at hT
  | .asg t e, X, sc, st, hx, h => by
    cases st <;> first | (simp [okS] at h; done) | skip
    rename_i ts e' p
    match ts, h with
    | [t'], h =>
      simp only [okS, Bool.and_eq_true] at h
      obtain ⟨⟨⟨⟨h1, h2⟩, h3⟩, h4⟩, h5⟩ := h
      by_cases hs : t.simple = true
      · refine PS.imp (ps_asg (sE e _ hx h2) (sT t _ hx h1 hs) (swapsS_of h3) (noSwap_of hx h4) (asg1_of h1)) fun E σ H ⟨η, μ, ρ, S, ED, hE, hR, hT, hQ⟩ => ?_
        simp only [wpS] at hT
        refine use hE hR hT fun d S1 v μ1 H1 g1 r1 e1 rv1 q1 => ?_
        exact gS_run t hs r1 e1 rv1 q1 fun ρ' σ' e' _ _ q => hQ.nx _ _ _ _ _ g1 r1 e' q
      · cases t with
        | name i => exact absurd rfl hs
        | tup ts =>
          have hs' : CT.simple (.tup ts) = false := by simpa using hs
          rw [hs', Bool.false_or] at h5
          split at h5
          · rename_i e; cases e
          · rename_i e; cases e
          · rename_i e; cases e
          · rename_i e; cases e
          · rename_i a1 k1 a2 k2 a3 k3 e0
            cases e0
            have h1' := h1
            cases t' <;> first | (simp [okT] at h1; done) | skip
            rename_i els kt pt
            simp only [okT] at h1
            match els, h1, h1', h3, h4 with
            | [], h1, _, _, _ => simp [okTs] at h1
            | [_], h1, _, _, _ => simp [okTs] at h1
            | [_, _], h1, _, _, _ => simp [okTs] at h1
            | _ :: _ :: _ :: _ :: _, h1, _, _, _ => simp [okTs] at h1
            | [t1, t2, t3], h1, h1', h3, h4 =>
              simp only [okTs, Bool.and_eq_true] at h1
              obtain ⟨x1, x2, x3, _⟩ := h1
              obtain ⟨o1, i1, b1, c1, p1, rfl, u1, u2, u3⟩ := okT_dsub x1
              obtain ⟨o2, i2, b2, c2, p2, rfl, v1, v2, v3⟩ := okT_dsub x2
              obtain ⟨o3, i3, b3, c3, p3, rfl, w1, w2, w3⟩ := okT_dsub x3
              have hu : X.A.units + 1 < cLine := by have := hx.room.units; omega
              have P := pgs_cons (pg_sub (pos := p1) (sE a1 _ hx u1) (pe_tup (x1 := b1) (pos := c1) (sEs k1 _ hx u2)) (set_dictT hu) (sub_of rfl)) (pgs_cons (pg_sub (pos := p2) (sE a2 _ hx v1) (pe_tup (x1 := b2) (pos := c2) (sEs k2 _ hx v2)) (set_dictT hu) (sub_of rfl)) (pgs_cons (pg_sub (pos := p3) (sE a3 _ hx w1) (pe_tup (x1 := b3) (pos := c3) (sEs k3 _ hx w2)) (set_dictT hu) (sub_of rfl)) pgs_nil))
              refine PS.imp (ps_asg (sE e _ hx h2) (pg_or (pg_tup (k := kt) (pos := pt) hx.calm P) (pg_lst hx.calm P)) (swapsS_of h3) (noSwap_of hx h4) (asg1_of h1')) fun E σ H ⟨η, μ, ρ, S, ED, hE, hR, hT, hQ⟩ => ?_
              simp only [wpS, wpG] at hT
              refine use hE hR hT fun d S1 v μ1 H1 g1 r1 e1 rv1 q1 => ?_
              unfold unpD at q1
              split at q1
              · obtain ⟨hl, q1⟩ := q1
                cases rv1 with
                | tup hq qs => exact .inl ⟨_, _, rfl, hq, by rw [← qs.length]; exact hl, dsub3_run e1 r1 qs q1 hl u3 v3 w3 fun S' μ' H' g r e q => hQ.nx _ _ _ _ _ (g1.trans g) r e q⟩
              · obtain ⟨xs, ex, hl, q1⟩ := q1
                obtain ⟨b, ws, rfl, hb, qs⟩ := lst_of r1 rv1 ex
                exact .inr ⟨_, _, rfl, .inl (.inl hb), by rw [← qs.length]; exact hl, dsub3_run e1 r1 qs q1 hl u3 v3 w3 fun S' μ' H' g r e q => hQ.nx _ _ _ _ _ (g1.trans g) r e q⟩
          · cases h5
        | sub a i =>
          cases t' <;> first | (simp [okT] at h1; done) | skip
          have h1' := h1
          simp only [okT, Bool.and_eq_true] at h1
          refine PS.imp (ps_asg (sE e _ hx h2) (pg_sub (sE a _ hx h1.1.1) (sE i _ hx h1.1.2) set_list (sub_of h1.2)) (swapsS_of h3) (noSwap_of hx h4) (asg1_of h1')) fun E σ H ⟨η, μ, ρ, S, ED, hE, hR, hT, hQ⟩ => ?_
          simp only [wpS, wpG] at hT
          refine use hE hR hT fun d S1 v μ1 H1 g1 r1 e1 rv1 q1 => use e1 r1 q1 fun d2 S2 v2 μ2 H2 g2 r2 e2 rv2 q2 => use e2 r2 q2 fun d3 S3 v3 μ3 H3 g3 r3 e3 rv3 q3 => ?_
          obtain ⟨n, xs, kk, j, rfl, rfl, ec, ei, q⟩ := q3
          cases rv3
          have rv2' := rv2.ext (η' := η) g3.ext
          cases rv2' with
          | @ref n a hn =>
            obtain ⟨a', ha', vs, hvs, qs⟩ := r3.cell n _ ec
            rw [hn] at ha'; cases ha'
            have rv1' := (rv1.ext (η' := η) g2.ext).ext (η' := η) g3.ext
            have qs' := qs.set rv1' j
            refine ⟨_, _, _, j, rfl, rfl, hvs, by rw [← qs.length]; exact ei, ?_⟩
            have gg := grow_set (o := .lst (vs.set j v)) r3 hn hvs
            exact hQ.nx _ _ _ _ _ (((g1.trans g2).trans g3).trans gg) (rp_set r3 hn hvs qs') (e3.ext gg.ext) q
        | ksub a i =>
          cases t' <;> first | (simp [okT] at h1; done) | skip
          have h1' := h1
          simp only [okT, Bool.and_eq_true] at h1
          refine PS.imp (ps_asg (sE e _ hx h2) (pg_sub (sE a _ hx h1.1.1) (sE i _ hx h1.1.2) (set_dictT (by have := hx.room.units; omega)) (sub_of h1.2)) (swapsS_of h3) (noSwap_of hx h4) (asg1_of h1')) fun E σ H ⟨η, μ, ρ, S, ED, hE, hR, hT, hQ⟩ => ?_
          simp only [wpS, wpG] at hT
          refine use hE hR hT fun d S1 v μ1 H1 g1 r1 e1 rv1 q1 => use e1 r1 q1 fun d2 S2 v2 μ2 H2 g2 r2 e2 rv2 q2 => use e2 r2 q2 fun d3 S3 v3 μ3 H3 g3 r3 e3 rv3 q3 => ?_
          obtain ⟨n, kvs, ks, rfl, rfl, ec, hlen, q⟩ := q3
          cases rv3 with
          | @key b1 _ hb =>
            have rv2' := rv2.ext (η' := η) g3.ext
            cases rv2' with
            | @ref n a1 hn =>
              obtain ⟨a', ha', ws, hw, qs⟩ := r3.cell n _ ec
              rw [hn] at ha'; cases ha'
              have rv1' := (rv1.ext (η' := η) g2.ext).ext (η' := η) g3.ext
              have qp := qs.put (k := ks) rv1'
              refine ⟨a1, b1, ws, ks, rfl, rfl, hw, hb, by rw [← qs.length]; exact hlen, ?_⟩
              have gg := grow_set (o := .dT (putK ws ks v)) r3 hn hw
              exact hQ.nx _ _ _ _ _ (((g1.trans g2).trans g3).trans gg) (rp_setD r3 hn hw qp) (e3.ext gg.ext) q
        | kput a i =>
          cases t' <;> first | (simp [okT] at h1; done) | skip
          have h1' := h1
          simp only [okT, Bool.and_eq_true] at h1
          refine PS.imp (ps_asg (sE e _ hx h2) (pg_sub (sE a _ hx h1.1.1) (sE i _ hx h1.1.2) (set_dictK (by have := hx.room.units; omega)) (sub_of h1.2)) (swapsS_of h3) (noSwap_of hx h4) (asg1_of h1')) fun E σ H ⟨η, μ, ρ, S, ED, hE, hR, hT, hQ⟩ => ?_
          simp only [wpS, wpG] at hT
          refine use hE hR hT fun d S1 v μ1 H1 g1 r1 e1 rv1 q1 => use e1 r1 q1 fun d2 S2 v2 μ2 H2 g2 r2 e2 rv2 q2 => use e2 r2 q2 fun d3 S3 v3 μ3 H3 g3 r3 e3 rv3 q3 => ?_
          obtain ⟨n, kvs, k9, rfl, ec, hk, hlen, q⟩ := q3
          have ek := keyOf_rv rv3 hk
          subst ek
          have rv2' := rv2.ext (η' := η) g3.ext
          cases rv2' with
          | @ref n a1 hn =>
            obtain ⟨a', ha', ws, hw, qs⟩ := r3.cell n _ ec
            rw [hn] at ha'; cases ha'
            have rv1' := (rv1.ext (η' := η) g2.ext).ext (η' := η) g3.ext
            have qp := qs.put (k := k9) rv1'
            have gg := grow_set (o := .dK (putK ws k9 v)) r3 hn hw
            exact ⟨a1, ws, k9, rfl, rfl, hw, by rw [← qs.length]; exact hlen, hQ.nx _ _ _ _ _ (((g1.trans g2).trans g3).trans gg) (rp_setK r3 hn hw qp) (e3.ext gg.ext) q⟩
        | dsub a es =>
          cases t' <;> first | (simp [okT] at h1; done) | skip
          rename_i o i p'
          cases i <;> first | (simp [okT] at h1; done) | skip
          have h1' := h1
          simp only [okT, Bool.and_eq_true, decide_eq_true_eq] at h1
          refine PS.imp (ps_asg (sE e _ hx h2) (pg_sub (sE a _ hx h1.1.1) (pe_tup (sEs es _ hx h1.1.2)) (set_dictT (by have := hx.room.units; omega)) (sub_of rfl)) (swapsS_of h3) (noSwap_of hx h4) (asg1_of h1')) fun E σ H ⟨η, μ, ρ, S, ED, hE, hR, hT, hQ⟩ => ?_
          simp only [wpS, wpG] at hT
          refine use hE hR hT fun d S1 v μ1 H1 g1 r1 e1 rv1 q1 => use e1 r1 q1 fun d2 S2 v2 μ2 H2 g2 r2 e2 rv2 q2 => useA e2 r2 q2 fun ys S3 vs μ3 H3 g3 r3 e3 rv3 hl q3 => ⟨?_, fun p hp => ?_⟩
          · have : (1000 : Nat) ≤ sizeLine := by decide
            omega
          obtain ⟨n, kvs, ks, rfl, ec, hk, hlen, q⟩ := q3
          have g4 := grow_new (o := .tup vs) r3 hp
          have r4 := rp_new (o := .tup vs) r3 hp
          have eb : vs = ks.map kV := keysOf_rv rv3 hk
          have rv2' := (rv2.ext (η' := η) g3.ext).ext (η' := η) g4.ext
          cases rv2' with
          | @ref n a1 hn =>
            obtain ⟨a', ha', ws, hw, qs⟩ := r4.cell n _ ec
            rw [hn] at ha'; cases ha'
            have rv1' := ((rv1.ext (η' := η) g2.ext).ext (η' := η) g3.ext).ext (η' := η) g4.ext
            have qp := qs.put (k := ks) rv1'
            refine ⟨a1, p, ws, ks, rfl, rfl, hw, by rw [← eb]; exact upd_same, by rw [← qs.length]; exact hlen, ?_⟩
            have gg := grow_set (o := .dT (putK ws ks v)) r4 hn hw
            exact hQ.nx _ _ _ _ _ ((((g1.trans g2).trans g3).trans g4).trans gg) (rp_setD r4 hn hw qp) ((e3.ext g4.ext).ext gg.ext) q
    | [], h => simp [okS] at h
    | _ :: _ :: _, h => simp [okS] at h
  | .par2 i j a b, X, sc, st, hx, h => by
    unfold okS at h
    split at h <;> first | (cases h; done) | (rename_i hq; cases hq; done) | skip
    rename_i hq; cases hq
    rename_i x px y py kt pt a' b' k2 p2 p
    simp only [Bool.and_eq_true, decide_eq_true_eq] at h
    obtain ⟨⟨⟨⟨⟨⟨⟨h1, h2⟩, h3⟩, h4⟩, h5⟩, h6⟩, h7⟩, h8⟩ := h
    have hw := swN_of (k1 := kt) (p1 := pt) (k2 := k2) (p2 := p2) hx (lits h8)
    refine PS.imp (ps_par hx.calm (by rw [hx.nm]; exact hx.nd) (by rw [hx.nm]; exact lits h3) (by rw [hx.nm]; exact lits h4) h5 (by rw [hx.scp]; exact pure_of h1) (by rw [hx.scp]; exact pure_of h2) (pa2 (sE a _ hx h6) (sE b _ hx h7) (star_of h6) (star_of h7)) hw rfl) fun E σ H ⟨η, μ, ρ, S, ED, hE, hR, hT, hQ⟩ => ?_
    simp only [wpS] at hT
    refine useA (QD := fun ds S1 => ED.nx ((ρ.set i (some (ds.headD .non))).set j (some (ds.tail.headD .non))) S1) hE hR hT fun ds S1 vs μ1 H1 g1 r1 e1 rv1 hl q1 => ?_
    obtain ⟨d, d', v, v', rfl, rfl, rv, rv2⟩ := two_of rv1 hl
    exact ⟨v, v', rfl, hQ.nx _ _ _ _ _ g1 r1 ((e1.set rv i).set rv2 j) q1⟩
  | .par3 i j l a b c, X, sc, st, hx, h => by
    unfold okS at h
    split at h <;> first | (cases h; done) | (rename_i hq; cases hq; done) | skip
    rename_i hq; cases hq
    rename_i x px y py z pz kt pt a' b' c' k2 p2 p
    simp only [Bool.and_eq_true, decide_eq_true_eq] at h
    obtain ⟨⟨⟨⟨⟨⟨⟨⟨⟨⟨⟨⟨h1, h2⟩, h3⟩, h4⟩, h5⟩, h6⟩, h7⟩, h8⟩, h9⟩, ha⟩, hb⟩, hc⟩, hd⟩ := h
    have hw := swN_of (k1 := kt) (p1 := pt) (k2 := k2) (p2 := p2) hx (lits hd)
    refine PS.imp (ps_par3 hx.calm (by rw [hx.nm]; exact hx.nd) (by rw [hx.nm]; exact lits h4) (by rw [hx.nm]; exact lits h5) (by rw [hx.nm]; exact lits h6) h7 h8 h9 (by rw [hx.scp]; exact pure_of h1) (by rw [hx.scp]; exact pure_of h2) (by rw [hx.scp]; exact pure_of h3)
      (pa3 (sE a _ hx ha) (sE b _ hx hb) (sE c _ hx hc) (star_of ha) (star_of hb) (star_of hc)) hw rfl) fun E σ H ⟨η, μ, ρ, S, ED, hE, hR, hT, hQ⟩ => ?_
    simp only [wpS] at hT
    refine useA (QD := fun ds S1 => ED.nx (((ρ.set i (some (ds.headD .non))).set j (some (ds.tail.headD .non))).set l (some (ds.tail.tail.headD .non))) S1) hE hR hT fun ds S1 vs μ1 H1 g1 r1 e1 rv1 hl q1 => ?_
    obtain ⟨d, d', d3, v, v', v3, rfl, rfl, rv, rv2, rv3⟩ := three_of rv1 hl
    exact ⟨v, v', v3, rfl, hQ.nx _ _ _ _ _ g1 r1 (((e1.set rv i).set rv2 j).set rv3 l) q1⟩
  | .setLc i e, X, sc, st, hx, h => by
    unfold okS at h
    split at h <;> first | (cases h; done) | (rename_i hq; cases hq; done) | skip
    · rename_i hq; cases hq
      rename_i y py elt' gs scope pos p
      simp only [Bool.and_eq_true] at h
      obtain ⟨⟨⟨⟨⟨h0, h⟩, hy⟩, hi⟩, hl⟩, ha⟩ := h
      cases e <;> first | (cases h0; done) | skip
      rename_i m elt tg it ifs own
      match gs, h with
      | [⟨tg', it', ifs', as⟩], h =>
        by_cases ha : as = 0
        · subst ha
          simp only [okE, Bool.and_eq_true] at h
          obtain ⟨⟨⟨⟨⟨⟨⟨⟨h1, h2⟩, h3⟩, h4⟩, h5⟩, h6⟩, h7⟩, h8⟩, h9⟩ := h
          have ok := blkOk_by h1
          have hok : BlkOk X.N X.env.scope scope (own.map fun i => (N.getD i "", i)) := by rw [hx.nm, hx.scp]; exact ok
          have hown : (own.map fun i => ((N.getD i "", i) : Str × Nat)).map (·.2) = own := by rw [List.map_map]; exact List.map_id _
          have hyl : X.env.scope.names.lookup y = some .local := by rw [hx.scp]; exact pure_of hy
          have P := ps_setLc (spos := p) (py := py) (i := i) (y := y) (pos := pos) (elt := elt') (ifs := ifs') (tg := tg') (iter := it') (scope := scope) (g := gS X.K tg) (tt := bOf X.K (wpBs G ifs)) (te := tOf X.K (wpE G elt)) hx.calm (by rw [hx.nm]; exact hx.nd) (by rw [hx.nm]; exact lits hi) hyl
            (sw_true (by rw [hx.scp]; exact hx.kind) hyl hl (by simpa using ‹(!scope.names.any fun x => match x with | (n, k) => n == y && (k == NameKind.local || k == NameKind.cell)) = true›)) (sI it _ _ hx h6 (pairs_of h9)) hok (fun s H C cl fp => sT tg _ (hx.blk ok.kind s H C cl fp) h3 h4) (fun s H C cl fp => sBs ifs _ (hx.blk ok.kind s H C cl fp) h7 (by simpa using h8))
            (fun s H C cl fp => sE elt _ (hx.blk ok.kind s H C cl fp) h2) (sI_fold it _ h6)
          rw [hown] at P
          refine PS.imp P fun E σ H ⟨η, μ, ρ, S, ED, hE, hR, hT, hQ⟩ => ?_
          rw [wpS] at hT
          refine lc_of hE hR h4 (fun i hi => by simpa using List.all_eq_true.mp h5 i hi) hT fun v H' ⟨d, S1, μ1, g1, r1, rv, q⟩ => ?_
          exact hQ.nx _ _ _ _ _ g1 r1 ((hE.ext g1.ext).set rv i) q
        · simp [okE, ha] at h
      | [], h => simp [okE] at h
      | _ :: _ :: _, h => simp [okE] at h
    · rename_i hq; cases hq
      rename_i y py key' val' gs scope pos p
      simp only [Bool.and_eq_true] at h
      obtain ⟨⟨⟨⟨⟨h0, h⟩, hy⟩, hi⟩, hl⟩, ha⟩ := h
      cases e <;> first | (cases h0; done) | skip
      rename_i key val tg it own
      match gs, h with
      | [⟨tg', it', ifs', as⟩], h =>
        by_cases hz : as = 0 ∧ ifs' = []
        · obtain ⟨rfl, rfl⟩ := hz
          simp only [okE, Bool.and_eq_true] at h
          obtain ⟨⟨⟨⟨⟨⟨⟨h1, h2⟩, h2'⟩, h3⟩, h4⟩, h5⟩, h6⟩, h9⟩ := h
          have ok := blkOk_by h1
          have hok : BlkOk X.N X.env.scope scope (own.map fun i => (N.getD i "", i)) := by rw [hx.nm, hx.scp]; exact ok
          have hown : (own.map fun i => ((N.getD i "", i) : Str × Nat)).map (·.2) = own := by rw [List.map_map]; exact List.map_id _
          have hyl : X.env.scope.names.lookup y = some .local := by rw [hx.scp]; exact pure_of hy
          have P := ps_setDc (spos := p) (py := py) (i := i) (y := y) (pos := pos) (kx := key') (vx := val') (ifs := []) (tg := tg') (iter := it') (scope := scope) (g := gS X.K tg) (tt := tYes) (tk := tOf X.K (wpE G key)) (tv := tOf X.K (wpE G val)) hx.calm (by rw [hx.nm]; exact hx.nd) (by rw [hx.nm]; exact lits hi) hyl
            (sw_trueD (by rw [hx.scp]; exact hx.kind) hyl hl (by simpa using ha)) (sI it _ _ hx h6 (pairs_of h9)) hok (fun s H C cl fp => sT tg _ (hx.blk ok.kind s H C cl fp) h3 h4) (fun s H C cl fp => pts_nil)
            (fun s H C cl fp => sE key _ (hx.blk ok.kind s H C cl fp) h2) (fun s H C cl fp => sE val _ (hx.blk ok.kind s H C cl fp) h2') (sI_fold it _ h6)
          rw [hown] at P
          refine PS.imp P fun E σ H ⟨η, μ, ρ, S, ED, hE, hR, hT, hQ⟩ => ?_
          rw [wpS] at hT
          refine dc_of hE hR h4 (fun i hi => by simpa using List.all_eq_true.mp h5 i hi) hT fun v H' ⟨d, S1, μ1, g1, r1, rv, q⟩ => ?_
          exact hQ.nx _ _ _ _ _ g1 r1 ((hE.ext g1.ext).set rv i) q
        · exfalso
          unfold okE at h
          split at h <;> first | (cases h; done) | skip
          all_goals first | (exact hz ⟨rfl, rfl⟩) | (rename_i e1 e2; cases e1; exact hz ⟨rfl, rfl⟩) | simp_all
      | [], h => simp [okE] at h
      | _ :: _ :: _, h => simp [okE] at h
  | .aug i op e, X, sc, st, hx, h => by
    cases st <;> first | (simp [okS] at h; done) | skip
    rename_i t op' e' p
    cases t <;> first | (simp [okS] at h; done) | skip
    simp only [okS, Bool.and_eq_true, beq_iff_eq] at h
    obtain ⟨⟨⟨h1, h2⟩, h3⟩, h4⟩ := h
    subst h1
    obtain ⟨l1, l2⟩ := loc_of h2
    obtain ⟨ti, hti, hrun⟩ := aug_ip (X := X) op
    refine PS.imp (ps_aug (i := i) (by rw [hx.nm]; exact hx.nd) (by rw [hx.nm]; exact lits (by simpa using h3)) (by rw [hx.scp]; exact l1) (sE e _ hx h4) hti (l2.imp (fun z => hx.fn _ z) fun z => by rw [hx.scp]; exact z)) fun E σ H ⟨η, μ, ρ, S, ED, hE, hR, hT, hQ⟩ => ?_
    simp only [wpS] at hT
    obtain ⟨x, ex, hT⟩ := hT
    obtain ⟨v, ev, rv⟩ := hE.get i x ex
    refine ⟨v, ev, use hE hR hT fun d S1 u μ1 H1 g1 r1 e1 rv1 q1 => ?_⟩
    refine hrun (F := fun _ d S1 => ED.nx (ρ.set i (some d)) S1) r1 (rv.ext g1.ext) rv1 ?_ fun z q => hQ.nx _ _ _ _ _ g1 r1 (e1.set (.int z) i) q
    revert q1
    unfold i2
    split
    · cases op <;> exact id
    · exact id
  | .append a e, X, sc, st, hx, h => by
    unfold okS at h
    split at h <;> first | (cases h; done) | (rename_i hq; cases hq; done) | skip
    rename_i hq; cases hq
    rename_i o m ap e' cp p
    simp only [Bool.and_eq_true, beq_iff_eq] at h
    obtain ⟨⟨⟨⟨h1, h2⟩, h3⟩, h4⟩, h5⟩ := h
    subst h1
    refine PS.imp (ps_expr (pe_bm PySem.F.plainAttrs_list PySem.F.slot_list_append PySem.F.type_list_append mt_append (sE a _ hx h3) (pa1 (sE e _ hx h4) (star_of h4)) (base_of h5) (by rw [star_of h4]; rfl) (by simpa using h2) (star_of h4) rfl)) fun E σ H ⟨η, μ, ρ, S, ED, hE, hR, hT, hQ⟩ => ?_
    simp only [wpS] at hT
    refine use hE hR hT fun d S1 v μ1 H1 g1 r1 e1 rv1 q1 => ?_
    obtain ⟨n, rfl, hn, q1⟩ := q1
    cases rv1 with
    | @ref n a1 hn1 =>
      obtain ⟨a2, ha2, vs2, hv2, qs2⟩ : ∃ a2, μ1[n]? = some a2 ∧ ∃ vs, H1 a2 = some (.lst vs) ∧ True := by
        obtain ⟨ds0, hn⟩ := hn
        obtain ⟨a2, ha2, vs, e, q⟩ := r1.cell n _ hn
        exact ⟨a2, ha2, vs, e, trivial⟩
      rw [hn1] at ha2; cases ha2
      refine ⟨.inl ⟨rfl, _, .inl (.inl hv2)⟩, ?_⟩
      refine useA (QD := fun ds S2 => ∃ xs, S2[n]? = some (.lst xs) ∧ xs.length < sizeLine ∧ ED.nx ρ (S2.set n (.lst (xs ++ [ds.headD .non])))) e1 r1 q1 fun ds S2 vs μ2 H2 g2 r2 e2 rv2 hl q2 => ?_
      obtain ⟨y, u, rfl, rfl, ru⟩ := one_of rv2 hl
      obtain ⟨xs, ec, hz, q⟩ := q2
      obtain ⟨a3, ha3, ws, hw, qs⟩ := r2.cell n _ ec
      obtain ⟨more, em⟩ := g2.pre
      have ha1 : μ2[n]? = some a1 := by
        rw [em, List.getElem?_append_left (List.getElem?_eq_some_iff.mp hn1).1]; exact hn1
      rw [ha1] at ha3; cases ha3
      refine ⟨a1, ws, u, rfl, rfl, hw, by rw [← qs.length]; exact hz, ?_⟩
      have gg := grow_set (o := .lst (ws ++ [u])) r2 ha1 hw
      exact hQ.nx _ _ _ _ _ ((g1.trans g2).trans gg) (rp_set r2 ha1 hw (qs.append (.cons ru .nil))) (e2.ext gg.ext) q
  | .extend a e, X, sc, st, hx, h => by
    unfold okS at h
    split at h <;> first | (cases h; done) | (rename_i hq; cases hq; done) | skip
    rename_i hq; cases hq
    rename_i o m ap e' cp p
    simp only [Bool.and_eq_true, beq_iff_eq] at h
    obtain ⟨⟨⟨⟨h1, h2⟩, h3⟩, h4⟩, h5⟩ := h
    subst h1
    refine PS.imp (ps_expr (pe_bm PySem.F.plainAttrs_list PySem.F.slot_list_extend PySem.F.type_list_extend mt_extend (sE a _ hx h3) (pa1 (sE e _ hx h4) (star_of h4)) (base_of h5) (by rw [star_of h4]; rfl) (by simpa using h2) (star_of h4) rfl)) fun E σ H ⟨η, μ, ρ, S, ED, hE, hR, hT, hQ⟩ => ?_
    simp only [wpS] at hT
    refine use hE hR hT fun d S1 v μ1 H1 g1 r1 e1 rv1 q1 => ?_
    obtain ⟨n, rfl, hn, q1⟩ := q1
    cases rv1 with
    | @ref n a1 hn1 =>
      obtain ⟨a2, ha2, vs2, hv2, qs2⟩ : ∃ a2, μ1[n]? = some a2 ∧ ∃ vs, H1 a2 = some (.lst vs) ∧ True := by
        obtain ⟨ds0, hn⟩ := hn
        obtain ⟨a2, ha2, vs, e, q⟩ := r1.cell n _ hn
        exact ⟨a2, ha2, vs, e, trivial⟩
      rw [hn1] at ha2; cases ha2
      refine ⟨.inl ⟨rfl, _, .inl (.inl hv2)⟩, ?_⟩
      refine useA (QD := fun ds S2 => ∃ xs zs, S2[n]? = some (.lst xs) ∧ lstOf S2 (ds.headD .non) = some zs ∧ xs.length + zs.length ≤ sizeLine ∧ ED.nx ρ (S2.set n (.lst (xs ++ zs)))) e1 r1 q1 fun ds S2 vs μ2 H2 g2 r2 e2 rv2 hl q2 => ?_
      obtain ⟨y, u, rfl, rfl, ru⟩ := one_of rv2 hl
      obtain ⟨xs, zs, ec, ez, hz, q⟩ := q2
      obtain ⟨a3, ha3, ws, hw, qs⟩ := r2.cell n _ ec
      obtain ⟨more, em⟩ := g2.pre
      have ha1 : μ2[n]? = some a1 := by
        rw [em, List.getElem?_append_left (List.getElem?_eq_some_iff.mp hn1).1]; exact hn1
      rw [ha1] at ha3; cases ha3
      obtain ⟨b4, us, rfl, hb4, qz⟩ := lst_of r2 ru ez
      refine ⟨a1, b4, ws, us, rfl, rfl, hw, hb4, by rw [← qs.length, ← qz.length]; exact hz, ?_⟩
      have gg := grow_set (o := .lst (ws ++ us)) r2 ha1 hw
      exact hQ.nx _ _ _ _ _ ((g1.trans g2).trans gg) (rp_set r2 ha1 hw (qs.append qz)) (e2.ext gg.ext) q
  | .popS a, X, sc, st, hx, h => by
    unfold okS at h
    split at h <;> first | (cases h; done) | (rename_i hq; cases hq; done) | skip
    rename_i hq; cases hq
    rename_i o m ap cp p
    simp only [Bool.and_eq_true, beq_iff_eq] at h
    obtain ⟨⟨⟨h1, h2⟩, h3⟩, h5⟩ := h
    subst h1
    refine PS.imp (ps_expr (pe_bm0 PySem.F.plainAttrs_list PySem.F.slot_list_pop PySem.F.type_list_pop mt_pop (sE a _ hx h3) (base_of h5) (by simpa using h2))) fun E σ H ⟨η, μ, ρ, S, ED, hE, hR, hT, hQ⟩ => ?_
    simp only [wpS] at hT
    refine use hE hR hT fun d S1 v μ1 H1 g1 r1 e1 rv1 q1 => ?_
    obtain ⟨n, xs, y, rfl, ec, q⟩ := q1
    cases rv1 with
    | @ref n a1 hn1 =>
      obtain ⟨a3, ha3, ws, hw, qs⟩ := r1.cell n _ ec
      rw [hn1] at ha3; cases ha3
      have hlen := qs.length
      refine ⟨.inl ⟨rfl, _, .inl (.inl hw)⟩, ?_⟩
      obtain ⟨u, hu, ru⟩ := qs.get (i := xs.length) (d := y) (by simp)
      refine ⟨a1, ws, u, rfl, rfl, hw, by rw [← hlen]; simpa using hu, ?_⟩
      have gg := grow_set (o := .lst ws.dropLast) r1 hn1 hw
      have qd : RVs X.K H1 η μ1 xs ws.dropLast := by
        have := qs.take xs.length
        rw [List.take_left'] at this
        · rw [List.dropLast_eq_take, ← hlen]; simpa using this
        · rfl
      exact hQ.nx _ _ _ _ _ (g1.trans gg) (rp_set r1 hn1 hw qd) (e1.ext gg.ext) q
  | .if_ c a b, X, sc, st, hx, h => by
    cases st <;> first | (simp [okS] at h; done) | skip
    simp only [okS, Bool.and_eq_true] at h
    refine PS.imp (ps_if (sB c _ hx h.1.1) (sSs a _ hx h.1.2) (sSs b _ hx h.2)) fun E σ H ⟨η, μ, ρ, S, ED, hE, hR, hT, hQ⟩ => ?_
    simp only [wpS] at hT
    refine useB hE hR hT fun r S1 μ1 H1 g1 r1 e1 q1 => ?_
    cases r with
    | true => simp only [if_true] at q1 ⊢; exact useS e1 r1 q1 (hQ.grow g1)
    | false => simp only [Bool.false_eq_true, if_false] at q1 ⊢; exact useS e1 r1 q1 (hQ.grow g1)
  | .while_ c b, X, sc, st, hx, h => by
    cases st <;> first | (simp [okS] at h; done) | skip
    rename_i t bd el p
    cases el <;> first | (simp [okS] at h; done) | skip
    simp only [okS, Bool.and_eq_true] at h
    refine PS.imp (ps_while (by rw [hx.xe]; exact PassesOwn.never) (sB c _ hx h.1) (sSs b _ hx h.2)) fun E σ H ⟨η, μ, ρ, S, ED, hE, hR, hT, hQ⟩ => ?_
    simp only [wpS] at hT
    obtain ⟨W, ⟨m0, w0⟩, turn⟩ := hT
    refine ⟨fun m σ' H' => ∃ ρ' S' μ', Grow μ H μ' H' ∧ Rp X.K η μ' S' H' ∧ RE X.K H' η μ' ρ' σ' ∧ W m ρ' S', ⟨m0, ρ, S, μ, .refl, hR, hE, w0⟩, ?_⟩
    rintro m σ1 H1 ⟨ρ1, S1, μ1, g1, r1, e1, w1⟩
    refine useB e1 r1 (turn m ρ1 S1 w1) fun r S2 μ2 H2 g2 r2 e2 q2 => ?_
    cases r with
    | false => simp only [Bool.false_eq_true, if_false] at q2 ⊢; exact hQ.nx _ _ _ _ _ (g1.trans g2) r2 e2 q2
    | true =>
      simp only [if_true] at q2 ⊢
      refine ⟨fun σ' H' => ∃ ρ' S' μ', Grow μ H μ' H' ∧ Rp X.K η μ' S' H' ∧ RE X.K H' η μ' ρ' σ' ∧ ∃ m', m' < m ∧ W m' ρ' S', fun σ' H' ⟨ρ', S', μ', g, r, e, m', hm, w⟩ => ⟨m', hm, ρ', S', μ', g, r, e, w⟩, ?_⟩
      refine useS e2 r2 q2 ⟨fun ρ' S' σ' μ' H' g r e w => ⟨ρ', S', μ', (g1.trans g2).trans g, r, e, w⟩, fun d S' v μ' H' g r rv q => hQ.rt _ _ _ _ _ ((g1.trans g2).trans g) r rv q,
        fun ρ' S' σ' μ' H' g r e q => hQ.nx _ _ _ _ _ ((g1.trans g2).trans g) r e q, fun ρ' S' σ' μ' H' g r e w => ⟨ρ', S', μ', (g1.trans g2).trans g, r, e, w⟩⟩
  | .for_ t it b, X, sc, st, hx, h => by
    cases st <;> first | (simp [okS] at h; done) | skip
    rename_i t' it' bd el p
    cases el <;> first | (simp [okS] at h; done) | skip
    simp only [okS, Bool.and_eq_true] at h
    obtain ⟨⟨⟨⟨h1, h2⟩, h3⟩, h4⟩, h9⟩ := h
    refine PS.imp (ps_for (by rw [hx.xe]; exact PassesOwn.never) hx.calm (sI it _ _ hx h3 (pairs_of h9)) (sT t _ hx h1 h2) (sSs b _ hx h4) (sI_fold it _ h3)) fun E σ H ⟨η, μ, ρ, S, ED, hE, hR, hT, hQ⟩ => ?_
    simp only [wpS] at hT
    refine ⟨η, μ, ρ, S, _, hE, hR, hT, fun J H1 items I S1 μ1 g1 r1 hW jok => ?_⟩
    obtain ⟨W, w0, wst, turn, fin⟩ := hW
    refine ⟨fun i m σ' H' => i ≤ items.length ∧ m = items.length - i ∧ ∃ ρ' S' μ', Grow μ1 H1 μ' H' ∧ Rp X.K η μ' S' H' ∧ RE X.K H' η μ' ρ' σ' ∧ W i ρ' S', ⟨items.length, Nat.zero_le _, rfl, ρ, S1, μ1, .refl, r1, hE.ext g1.ext, w0⟩, ?_⟩
    rintro i m σ2 H2 ⟨hi, rfl, ρ2, S2, μ2, g2, r2, e2, w2⟩
    obtain ⟨jgo, jstop⟩ := jok i η μ2 S2 H2 g2.ext r2 (wst i ρ2 S2 w2)
    by_cases hlt : i < items.length
    · right
      obtain ⟨go, yl⟩ := jgo hlt
      refine ⟨go, fun σ' H' => i + 1 ≤ items.length ∧ ∃ ρ' S' μ', Grow μ1 H1 μ' H' ∧ Rp X.K η μ' S' H' ∧ RE X.K H' η μ' ρ' σ' ∧ W (i + 1) ρ' S', fun σ' H' hN => ⟨items.length - (i + 1), by omega, hN.1, rfl, hN.2⟩, fun x H3 hy => ?_⟩
      obtain ⟨gy, ry, d, hd, rvd⟩ := yl x H3 hy
      refine gS_run t h2 ry (e2.ext gy.ext) rvd (turn i d ρ2 S2 w2 hd) fun ρ' σ' e' _ _ q => ?_
      have gg : Grow μ1 H1 μ2 H3 := g2.trans gy
      have hG := hQ.grow (g1.trans gg)
      exact useS e' ry q ⟨fun ρ' S' σ' μ' H' g r e w => ⟨hlt, ρ', S', μ', gg.trans g, r, e, w⟩, hG.rt, hG.nx, fun ρ' S' σ' μ' H' g r e w => ⟨hlt, ρ', S', μ', gg.trans g, r, e, w⟩⟩
    · left
      have hi' : i = items.length := by omega
      subst hi'
      exact ⟨jstop (Nat.le_refl _) (Nat.le_refl _), hQ.nx _ _ _ _ _ (g1.trans g2) r2 e2 (fin _ _ w2)⟩
  | .lock s, X, sc, st, hx, h => by
    have h' : okS T N sc s st = true := by
      unfold okS at h
      exact h
    refine PS.imp (ps_lock (sS s st hx h')) fun E σ H ⟨η, μ, ρ, S, ED, hE, hR, hT, hQ⟩ => ?_
    rw [wpS] at hT
    obtain ⟨n, kvs, hc, hT⟩ := hT
    obtain ⟨a, ha, vs, hv, qk⟩ := hR.cell n _ hc
    have hm := List.mem_of_getElem? ha
    refine ⟨a, .dT vs, hv, trivial, fun od => ?_⟩
    have g0 := grow_set (o := .frz od (.dT vs)) hR ha hv
    have qk0 := qk.ext (g0.ext (η := η))
    have fin : ∀ μ' H', Grow μ (upd H a (.frz od (.dT vs))) μ' H' → (μ'[n]? = some a ∧ H' a = some (.frz od (.dT vs)) ∧ RKs X.K H' η μ' kvs vs) := fun μ' H' g => by
      refine ⟨?_, g.frz _ _ _ upd_same, qk0.ext g.ext⟩
      obtain ⟨more, em⟩ := g.pre
      rw [em, List.getElem?_append_left (List.getElem?_eq_some_iff.mp ha).1]; exact ha
    refine ⟨η, μ, ρ, S.set n (.dlk kvs), _, hE.ext g0.ext, rp_lock hR ha hv qk, hT, ⟨fun ρ' S' σ' μ' H' g r e q => ?_, fun d S' v μ' H' g r e q => ?_, fun ρ' S' σ' μ' H' g r e q => ?_, fun ρ' S' σ' μ' H' g r e q => ?_⟩⟩
    · obtain ⟨f1, f2, f3⟩ := fin _ _ g
      exact ⟨f2, hQ.nx _ _ _ _ _ (grow_un lkT (fun _ _ z => nomatch z) hm hv g) (rp_unlock r f1 f2 f3) (e.un lkT (List.mem_of_getElem? f1) f2) q⟩
    · obtain ⟨f1, f2, f3⟩ := fin _ _ g
      exact ⟨f2, hQ.rt _ _ _ _ _ (grow_un lkT (fun _ _ z => nomatch z) hm hv g) (rp_unlock r f1 f2 f3) (e.un lkT (List.mem_of_getElem? f1) f2) q⟩
    · obtain ⟨f1, f2, f3⟩ := fin _ _ g
      exact ⟨f2, hQ.bk _ _ _ _ _ (grow_un lkT (fun _ _ z => nomatch z) hm hv g) (rp_unlock r f1 f2 f3) (e.un lkT (List.mem_of_getElem? f1) f2) q⟩
    · obtain ⟨f1, f2, f3⟩ := fin _ _ g
      exact ⟨f2, hQ.ct _ _ _ _ _ (grow_un lkT (fun _ _ z => nomatch z) hm hv g) (rp_unlock r f1 f2 f3) (e.un lkT (List.mem_of_getElem? f1) f2) q⟩
  | .lockK s, X, sc, st, hx, h => by
    have h' : okS T N sc s st = true := by
      unfold okS at h
      exact h
    refine PS.imp (ps_lock (sS s st hx h')) fun E σ H ⟨η, μ, ρ, S, ED, hE, hR, hT, hQ⟩ => ?_
    rw [wpS] at hT
    obtain ⟨n, kvs, hc, hT⟩ := hT
    obtain ⟨a, ha, vs, hv, qk⟩ := hR.cell n _ hc
    have hm := List.mem_of_getElem? ha
    refine ⟨a, .dK vs, hv, trivial, fun od => ?_⟩
    have g0 := grow_set (o := .frz od (.dK vs)) hR ha hv
    have qk0 := qk.ext (g0.ext (η := η))
    have fin : ∀ μ' H', Grow μ (upd H a (.frz od (.dK vs))) μ' H' → (μ'[n]? = some a ∧ H' a = some (.frz od (.dK vs)) ∧ RKs X.K H' η μ' kvs vs) := fun μ' H' g => by
      refine ⟨?_, g.frz _ _ _ upd_same, qk0.ext g.ext⟩
      obtain ⟨more, em⟩ := g.pre
      rw [em, List.getElem?_append_left (List.getElem?_eq_some_iff.mp ha).1]; exact ha
    refine ⟨η, μ, ρ, S.set n (.dkl kvs), _, hE.ext g0.ext, rp_lockK hR ha hv qk, hT, ⟨fun ρ' S' σ' μ' H' g r e q => ?_, fun d S' v μ' H' g r e q => ?_, fun ρ' S' σ' μ' H' g r e q => ?_, fun ρ' S' σ' μ' H' g r e q => ?_⟩⟩
    · obtain ⟨f1, f2, f3⟩ := fin _ _ g
      exact ⟨f2, hQ.nx _ _ _ _ _ (grow_un lkK (fun _ _ z => nomatch z) hm hv g) (rp_unlockK r f1 f2 f3) (e.un lkK (List.mem_of_getElem? f1) f2) q⟩
    · obtain ⟨f1, f2, f3⟩ := fin _ _ g
      exact ⟨f2, hQ.rt _ _ _ _ _ (grow_un lkK (fun _ _ z => nomatch z) hm hv g) (rp_unlockK r f1 f2 f3) (e.un lkK (List.mem_of_getElem? f1) f2) q⟩
    · obtain ⟨f1, f2, f3⟩ := fin _ _ g
      exact ⟨f2, hQ.bk _ _ _ _ _ (grow_un lkK (fun _ _ z => nomatch z) hm hv g) (rp_unlockK r f1 f2 f3) (e.un lkK (List.mem_of_getElem? f1) f2) q⟩
    · obtain ⟨f1, f2, f3⟩ := fin _ _ g
      exact ⟨f2, hQ.ct _ _ _ _ _ (grow_un lkK (fun _ _ z => nomatch z) hm hv g) (rp_unlockK r f1 f2 f3) (e.un lkK (List.mem_of_getElem? f1) f2) q⟩
theorem sSs : ∀ (cs : List CS) {X : Cx} {sc : SS} (sts : List Stmt), Here T G k N X sc → okSs T N sc cs sts = true → PSs X sts (sOf X.K (wpSs G cs))
  | [], X, sc, sts, hx, h => by
    cases sts with
    | cons _ _ => simp [okSs] at h
    | nil =>
      refine PSs.imp pss_nil fun E σ H ⟨η, μ, ρ, S, ED, hE, hR, hT, hQ⟩ => ?_
      simp only [wpSs] at hT
      exact hQ.nx _ _ _ _ _ .refl hR hE hT
  | c :: cs, X, sc, sts, hx, h => by
    cases sts with
    | nil => simp [okSs] at h
    | cons st sts =>
      simp only [okSs, Bool.and_eq_true] at h
      refine PSs.imp (pss_cons (sS c st hx h.1) (sSs cs sts hx h.2)) fun E σ H ⟨η, μ, ρ, S, ED, hE, hR, hT, hQ⟩ => ?_
      simp only [wpSs] at hT
      refine useS hE hR hT ⟨fun ρ' S' σ' μ' H' g r e q => useS e r q (hQ.grow g), hQ.rt, hQ.bk, hQ.ct⟩
end
end
end DL

namespace DL
open PySem PySem.Spec PyProof.Rows L2
def startD (n : Nat) (ds : List D) : DEnv := ds.map some ++ List.replicate (n - ds.length) none
theorem re_start {K : PySem.W.Frag} {H : Hp} {η μ : List Addr} {N : List Str} {ds : List D} {vs : List V} (r : RVs K H η μ ds vs) : RE K H η μ (startD N.length ds) (L2.start N vs) := by
  have hl := r.length
  refine ⟨by simp [startD, L2.start, hl], fun i d h => ?_⟩
  unfold startD at h
  by_cases hi : i < ds.length
  · rw [List.getElem?_append_left (by simpa using hi), List.getElem?_map] at h
    rw [List.getElem?_eq_getElem hi] at h
    simp at h
    obtain ⟨v, e, rv⟩ := r.get (List.getElem?_eq_getElem hi)
    refine ⟨v, ?_, by rw [← h]; exact rv⟩
    unfold L2.start
    rw [List.getElem?_append_left (by simp; omega), List.getElem?_map, e]
    rfl
  · rw [List.getElem?_append_right (by simpa using hi), List.getElem?_replicate] at h
    split at h <;> simp at h
/-- a def keeps what its body's reading tells -/
theorem fn_sound {P : Program} {w : World} {K : PySem.W.Frag} {mg : Str → Option Value} {base : Heap} {T : Tb} {G : Fns} {k : Nat} {x qual : Str} {st : Stmt} {f : Addr} {fd : FuncData} {N ps : List Str} {core : List CS} {sp : List D → DStore → QE → Prop}
    (F : L2.Fun K x qual st f fd) (Sc : FnScope N ps (L2.defScope st)) (tab : Tab P w K mg base k T G) (ok : okSs T N ⟨L2.defScope st, L2.defScope st⟩ core (L2.defBody st) = true)
    (hlen : ∀ ds S Q, sp ds S Q → ds.length = ps.length) (hb : ∀ ds S Q, sp ds S Q → wpSs G core (startD N.length ds) S { nx := fun _ S' => Q .non S', rt := Q }) :
    FnG P w K mg base (k + 1) f fd ps (spOf K sp) := by
  refine fnG_of F Sc (fun vs H Q ⟨η, μ, S, ds, QD, r, rv, h, hq⟩ => by rw [← rv.length]; exact hlen _ _ _ h) fun cdv A outer s H vs Q hg hr h => ?_
  obtain ⟨η, μ, S, ds, QD, r, rv, h, hq⟩ := h
  have hx : Here T G k N (cxG P w K mg base N qual st f cdv A outer s H) ⟨L2.defScope st, L2.defScope st⟩ :=
    ⟨tab, rfl, Sc.nd, rfl, Sc.kind, rfl, hr, hg, rfl, fun _ _ => rfl⟩
  refine ⟨_, sSs core _ hx ok, useS (re_start rv) r (hb ds S QD h) ⟨?_, ?_, fun _ _ _ _ _ _ _ _ z => z.elim, fun _ _ _ _ _ _ _ _ z => z.elim⟩⟩
  · exact fun ρ' S' σ' μ' H' g r' e q => hq _ _ ⟨.non, S', μ', g, r', .non, q⟩
  · exact fun d S' v μ' H' g r' rv' q => hq _ _ ⟨d, S', μ', g, r', rv', q⟩
theorem Tab.none {P : Program} {w : World} {K : PySem.W.Frag} {mg : Str → Option Value} {base : Heap} {gls bis : List Str} {G : Fns}
    (gl : ∀ (j : Nat) (x : Str), gls[j]? = some x → ∃ u v, mg x = some u ∧ RelV v u ∧ (∀ H η μ, RV K H η μ (G.gl j) v) ∧ ∀ a, v = .ref a → ∃ o, K.lookup a = some o ∧ o.cls = .type "tuple" ∧ o.dict = none) (bi : ∀ x ∈ bis, mg x = none) : Tab P w K mg base 0 ⟨[], gls, bis⟩ G :=
  ⟨fun j i h => by simp at h, gl, bi⟩
theorem Tab.add {P : Program} {w : World} {K : PySem.W.Frag} {mg : Str → Option Value} {base : Heap} {T : Tb} {G : Fns} {k : Nat} {i : FI} {f : Addr} {fd : FuncData} (tab : Tab P w K mg base k T G)
    (F : FnG P w K mg base (k + 1) f fd i.ps (spOf K (G.fn T.fns.length))) (hm : mg i.name = some (.ref f)) (hk : PySem.W.keepIn K (.ref f) = true) (hb : i.ko = false → KBinds K fd i.ps [] (fun us _ => us) (fun vs _ => vs))
    (hkw : ∀ p ∈ i.kws, KBinds K fd i.ps p.1 (gK .none p.1.length p.2) (gK .non p.1.length p.2)) :
    Tab P w K mg base (k + 1) ⟨T.fns ++ [i], T.gls, T.bis⟩ G := by
  refine ⟨fun j i' h => ?_, tab.gl, tab.bi⟩
  by_cases hj : j < T.fns.length
  · have h' : T.fns[j]? = some i' := by
      have := h
      simp only at this
      rwa [List.getElem?_append_left hj] at this
    obtain ⟨f, fd, F, r⟩ := tab.fn j i' h'
    exact ⟨f, fd, F.mono (Nat.le_succ _), r⟩
  · have hj' : j = T.fns.length := by
      have := (List.getElem?_eq_some_iff.mp h).1
      simp at this
      omega
    subst hj'
    simp at h
    subst h
    exact ⟨f, fd, F, hm, hk, hb, hkw⟩
/-- how arguments come by their places, by names -/
theorem kb_pos {K : PySem.W.Frag} {fd : FuncData} {ps : List Str} (h : ∀ us : List Value, us.length = ps.length → bindArgs fd ⟨us, []⟩ = pure (ps.zip us)) : KBinds K fd ps [] (fun us _ => us) (fun vs _ => vs) :=
  ⟨fun s us ws _ hl => .of_eq (h us hl), fun a _ => a⟩
theorem vals_getD {zs : List V} {ws : List Value} (r : Vals zs ws) (n : Nat) : RelV (zs.getD n .non) (ws.getD n .none) := by
  by_cases h : n < zs.length
  · obtain ⟨u, e, ru⟩ := r.get (List.getElem?_eq_getElem h)
    rw [List.getD_eq_getElem?_getD, List.getD_eq_getElem?_getD, List.getElem?_eq_getElem h, e]
    exact ru
  · rw [List.getD_eq_getElem?_getD, List.getD_eq_getElem?_getD, List.getElem?_eq_none_iff.mpr (by omega), List.getElem?_eq_none_iff.mpr (by rw [← r.length]; omega)]
    rfl
theorem vals_perm {zs : List V} {ws : List Value} (r : Vals zs ws) : ∀ l : List Nat, Vals (l.map fun n => zs.getD n .non) (l.map fun n => ws.getD n .none)
  | [] => .nil
  | n :: l => .cons (vals_getD r n) (vals_perm r l)
theorem kb_kw {K : PySem.W.Frag} {fd : FuncData} {ps ks : List Str} {perm : List Nat} (hp : ps ≠ [])
    (h : ∀ us ws : List Value, ws.length = ks.length → us.length + perm.length = ps.length → bindArgs fd ⟨us, ks.zip ws⟩ = pure (ps.zip (us ++ perm.map fun n => ws.getD n .none))) : KBinds K fd ps ks (gK .none ks.length perm) (gK .non ks.length perm) := by
  refine ⟨fun s us ws _ hl => ?_, fun a b => ?_⟩
  · unfold gK at hl ⊢
    by_cases hw : ws.length = ks.length
    · rw [if_pos hw] at hl ⊢
      exact .of_eq (h us ws hw (by simpa using hl))
    · rw [if_neg hw] at hl
      exact absurd (List.eq_nil_of_length_eq_zero hl.symm) hp
  · unfold gK
    rw [b.length]
    split
    · exact a.append (vals_perm b perm)
    · exact .nil

/-! ### the law's end -/
/-- what a law's def promises -/
def spLaw : List D → DStore → QE → Prop := fun ds S Q => ∃ ns : List Int, ds = [.scr (ns.map D.int)] ∧ ns.length ≤ 63 ∧ ∀ S', Q (.bl true) S'
theorem rvs_ints {K : PySem.W.Frag} {H : Hp} {η μ : List Addr} : ∀ ns : List Int, RVs K H η μ (ns.map D.int) (ns.map V.int)
  | [] => .nil
  | n :: ns => .cons (.int n) (rvs_ints ns)
theorem law_end {P : Program} {w : World} {K : PySem.W.Frag} {mg mb : Str → Option Value} {k : Nat} {fa a : Addr} {fd : FuncData} {x : Str} {s1 : Shared} {vs : List Value} {ns : List Int}
    (kin : K.In s1.heap) (gns : s1.heap.Ns mainGlobals mg) (bns : s1.heap.Ns builtinsNs mb) (bb : ∀ x : Str, x ≠ "__name__" → mb x = bootBuiltins x) (lim : s1.heap.NoLimit) (nog : s1.gens = #[])
    (obj : s1.heap.get? a = some { cls := .type "list", data := .seq vs.toArray }) (hi : IntsAre vs ns) (len : ns.length ≤ 63) (room : Room k callerA)
    (F : ∀ base : Heap, K.In base → base.Ns mainGlobals mg → FnG P w K mg base k fa fd [x] (spOf K spLaw)) (binds : ∀ (s : Shared) (u : Value), BindsTo s fd ⟨[u], []⟩ [(x, u)]) :
    codeAny (model P w) callerA (.call (.ref fa) ⟨[.ref a], []⟩) (fun r s' => r = .ok (.ret (.bool true)) ∧ OldK s1.heap s'.heap ∧ s'.os = s1.os ∧ AllBare s'.gens) s1 := by
  have hz : ns.length ≤ sizeLine := Nat.le_trans len (by decide)
  have rel := vals_ints hi
  have hlen := hi.length
  let o : Obj := { cls := .type "list", data := .seq vs.toArray }
  -- whatever is tracked: nothing, or the script alone
  have go : ∀ H : Hp, (∀ b, b ≠ a → H b = none) → (H a = none ∨ (H a = some (.frz o (.lst (ns.map V.int))) ∧ K.lookup a = none)) → ((∃ o, H a = some (.frz o (.lst (ns.map V.int)))) ∨ ∀ H', SqL K H' a (ns.map V.int)) →
      codeAny (model P w) callerA (.call (.ref fa) ⟨[.ref a], []⟩) (fun r s' => r = .ok (.ret (.bool true)) ∧ OldK s1.heap s'.heap ∧ s'.os = s1.os ∧ AllBare s'.gens) s1 := by
    intro H Hn Ha hscr
    have hok : HOk P w H s1.heap := by
      intro b u e
      by_cases hb : b = a
      · subst hb
        rcases Ha with z | ⟨z, _⟩
        · rw [z] at e; cases e
        · rw [z] at e; cases e
          exact ⟨obj, by simpa using hz, vs, _, rel, obj⟩
      · rw [Hn b hb] at e; cases e
    have keep : ∀ {b : Addr} {u : Obj}, s1.heap.get? b = some u → H b = none → (hidT s1.heap H).get? b = some u := fun e hb => hidT_get e hb
    have nsK : ∀ {b : Addr} {m : Str → Option Value}, s1.heap.Ns b m → (hidT s1.heap H).Ns b m := by
      rintro b m ⟨u, es, ep, e, d, r⟩
      refine ⟨u, es, ep, keep e (Hn b ?_), d, r⟩
      rintro rfl
      rw [obj] at e; cases e
      cases d
    have kinB : K.In (hidT s1.heap H) := fun b u e => keep (kin b u e) (by
      by_cases hb : b = a
      · subst hb
        rcases Ha with z | ⟨_, z⟩
        · exact z
        · rw [z] at e; cases e
      · exact Hn b hb)
    have md : Mod K mg (hidT s1.heap H) := ⟨kinB, nsK gns, ⟨mb, nsK bns, bb⟩, by obtain ⟨mc, h1, h2⟩ := lim; exact ⟨mc, nsK h1, h2⟩⟩
    have e0 : Env0 P w K mg (hidT s1.heap H) callerA [] s1 H :=
      ⟨rfl, md, fun b u e => of_hidT e, Nat.le_of_eq (hidT_size _ _), trivial, fun b hb => (by cases hb), hok, .of_eq nog⟩
    have sp : spOf K spLaw [.ref a] H (fun v _ => v = .bl true) := by
      refine ⟨[], [], [], [.scr (ns.map D.int)], fun d _ => d = .bl true, ⟨rfl, List.nodup_nil, fun n c e => by simp at e, fun b hb => by cases hb⟩, .cons (.scr hscr (rvs_ints ns)) .nil, ⟨ns, rfl, len, fun _ => rfl⟩, ?_⟩
      rintro v H' ⟨d, S', μ', g, r, rv, rfl⟩
      cases rv
      rfl
    refine codeAny_mono ((F _ kinB (nsK gns)).run callerA [] s1 H ⟨[.ref a], []⟩ [.ref a] [.ref a] _ rfl room e0 (binds s1 (.ref a)) (.cons rfl .nil) sp) fun res s' out => ?_
    match res, out with
    | .error er, out => exact out.elim
    | .ok .next, out => exact out.elim
    | .ok .brk, out => exact out.elim
    | .ok .cont, out => exact out.elim
    | .ok (.ret u), ⟨v, H', os, bare, un, hok', rv, q⟩ =>
      obtain rfl : v = .bl true := q
      obtain rfl : u = Value.bool true := rv
      refine ⟨rfl, OldK.of_keep fun b u e => ?_, os, bare⟩
      by_cases hb : H b = none
      · exact un.keep b u e hb (fun z => by cases z) (fun z => by cases z)
      · have hba : b = a := Classical.byContradiction fun z => hb (Hn b z)
        subst hba
        rcases Ha with z | ⟨z, _⟩
        · exact absurd z hb
        · obtain ⟨e1, _⟩ := hok' b _ (un.frzs b o _ z)
          rw [obj] at e; cases e
          exact e1
  cases hk : K.lookup a with
  | none => exact go (fun b => if b = a then some (.frz o (.lst (ns.map V.int))) else none) (fun b hb => if_neg hb) (.inr ⟨if_pos rfl, hk⟩) (.inl ⟨o, if_pos rfl⟩)
  | some ob =>
    have e := kin a ob hk
    rw [obj] at e
    cases e
    refine go (fun _ => none) (fun _ _ => rfl) (.inl rfl) (.inr fun H' => .inr ⟨_, vs.toArray, _, hk, rfl, rfl, rfl, ?_, by simpa using rel⟩)
    rw [List.size_toArray, hlen]; exact hz
/-- the goal that the head leaves, from the law's promise -/
theorem walk_law {l : PySem.W.OpenLaw} {k : Nat} {q : Program} {loose : List Str} {XP : (Str → Option Value) → Heap → Prop} {YP : World → Heap → Prop} {d : DefRec} {K : Params → PySem.W.Frag} {x : Str}
    (hn : l.most = some 63) (hdf : d.params.defaults = []) (room : Room k callerA) (hY : ∀ (w : World) (h : Heap), YP w h → (K w.params).In h)
    (F : ∀ (w : World) (mg : Str → Option Value) (fa : Addr) (h : Heap), (K w.params).In h → h.Ns mainGlobals mg → mg d.name = some (.ref fa) →
      ∃ fd : FuncData, (∀ (s : Shared) (u : Value), BindsTo s fd ⟨[u], []⟩ [(x, u)]) ∧ ∀ base : Heap, (K w.params).In base → base.Ns mainGlobals mg → FnG l.prog w (K w.params) mg base k fa fd [x] (spOf (K w.params) spLaw)) :
    PySem.W.WalkO q loose XP YP l.row.toRowW d [] (fun f vs => PySem.call f vs) := by
  refine Att.attach_call hn hdf ?_
  intro w s0 s1 mg mb fa o pm cd doc a vs ns Gr Yp ho hd hcd hmg hobj hints hlen hg
  obtain ⟨fd, hb, hF⟩ := F w mg fa _ (hY w _ Yp) Gr.T.g hmg
  exact law_end (hY w _ Yp) Gr.T.g Gr.T.b Gr.T.builtins Gr.T.nolimit hg hobj hints hlen room hF hb
end DL

namespace DL
open PySem PySem.Spec PyProof.Rows L2
/-! ### walking and gathering -/
def rng (lo hi : Int) : List Int := (List.range (hi - lo).toNat).map fun (k : Nat) => lo + k
theorem rangeD_eq (lo hi : Int) : rangeD lo hi = (rng lo hi).map D.int := by simp [rangeD, rng, List.map_map, Function.comp_def]
theorem rng_len (lo hi : Int) : (rng lo hi).length = (hi - lo).toNat := by simp [rng]
theorem mem_rng {lo hi x : Int} : x ∈ rng lo hi ↔ lo ≤ x ∧ x < hi := by
  simp only [rng, List.mem_map, List.mem_range]
  constructor
  · rintro ⟨k, hk, rfl⟩; omega
  · intro h; exact ⟨(x - lo).toNat, by omega, by omega⟩
theorem walk_range {lo hi : Int} {I : DStore → Prop} {ρ : DEnv} {S : DStore} {turn : D → DEnv → DStore → (DEnv → DStore → Prop) → Prop} {Q : DEnv → DStore → Prop} (Pv : Nat → DEnv → DStore → Prop) (h0 : Pv 0 ρ S) (hI : ∀ i ρ S, Pv i ρ S → I S)
    (hs : ∀ (i : Nat) ρ S, lo + i < hi → Pv i ρ S → turn (.int (lo + i)) ρ S (Pv (i + 1))) (hd : ∀ ρ S, Pv (hi - lo).toNat ρ S → Q ρ S) : wpWalk (rangeD lo hi) I ρ S turn Q := by
  refine ⟨Pv, h0, hI, fun i x ρ S h e => ?_, fun ρ S h => hd ρ S (by simpa [rangeD] using h)⟩
  have hi' : i < (hi - lo).toNat := by
    have := (List.getElem?_eq_some_iff.mp e).1
    simpa [rangeD] using this
  unfold rangeD at e
  rw [List.getElem?_map, List.getElem?_range hi'] at e
  cases e
  exact hs i ρ S (by omega) h
theorem walk_list {items : List D} {I : DStore → Prop} {ρ : DEnv} {S : DStore} {turn : D → DEnv → DStore → (DEnv → DStore → Prop) → Prop} {Q : DEnv → DStore → Prop} (Pv : Nat → DEnv → DStore → Prop) (h0 : Pv 0 ρ S) (hI : ∀ i ρ S, Pv i ρ S → I S)
    (hs : ∀ (i : Nat) (x : D) ρ S, items[i]? = some x → Pv i ρ S → turn x ρ S (Pv (i + 1))) (hd : ∀ ρ S, Pv items.length ρ S → Q ρ S) : wpWalk items I ρ S turn Q :=
  ⟨Pv, h0, hI, fun i x ρ S h e => hs i x ρ S e h, hd⟩
/-- one after another, written out -/
theorem walk_nil {I : DStore → Prop} {ρ : DEnv} {S : DStore} {turn : D → DEnv → DStore → (DEnv → DStore → Prop) → Prop} {Q : DEnv → DStore → Prop} (hI : I S) (h : Q ρ S) : wpWalk [] I ρ S turn Q :=
  ⟨fun i ρ' S' => i = 0 ∧ ρ' = ρ ∧ S' = S, ⟨rfl, rfl, rfl⟩, fun i ρ' S' ⟨_, _, e⟩ => e ▸ hI, fun i x _ _ _ e => by simp at e, fun ρ' S' ⟨_, e1, e2⟩ => by rw [e1, e2]; exact h⟩
/-- a comprehension that changes nothing: a map -/
theorem gather_map {α : Type} {xs : List α} (mk : α → D) (f : α → D) {I : DStore → Prop} {S : DStore} {turn : D → DStore → (Option D → DStore → Prop) → Prop} {Q : List D → DStore → Prop} (hl : xs.length ≤ sizeLine) (hI : I S)
    (hs : ∀ x ∈ xs, ∀ N : Option D → DStore → Prop, N (some (f x)) S → turn (mk x) S N) (hQ : Q (xs.map f) S) : wpGather (xs.map mk) I S turn Q := by
  refine ⟨fun i acc S' => S' = S ∧ i ≤ xs.length ∧ acc = (xs.take i).map f, ⟨rfl, Nat.zero_le _, by simp⟩, ?_, by simpa using hl, ?_, ?_⟩
  · rintro i acc S' ⟨rfl, hi, rfl⟩
    exact ⟨hI, by simp; omega, by simpa using hi⟩
  · rintro i x acc S' ⟨rfl, hi, rfl⟩ e
    rw [List.getElem?_map] at e
    obtain ⟨y, ey, rfl⟩ := Option.map_eq_some_iff.mp e
    have hlt : i < xs.length := (List.getElem?_eq_some_iff.mp ey).1
    refine hs y (List.mem_of_getElem? ey) _ ⟨rfl, hlt, ?_⟩
    rw [List.take_add_one, ey, List.map_append]; rfl
  · rintro acc S' ⟨rfl, hi, rfl⟩
    rw [List.length_map, List.take_length]; exact hQ
theorem gather_range {lo hi : Int} (f : Int → D) {I : DStore → Prop} {S : DStore} {turn : D → DStore → (Option D → DStore → Prop) → Prop} {Q : List D → DStore → Prop} (hl : (hi - lo).toNat ≤ sizeLine) (hI : I S)
    (hs : ∀ x, lo ≤ x → x < hi → ∀ N : Option D → DStore → Prop, N (some (f x)) S → turn (.int x) S N) (hQ : Q ((rng lo hi).map f) S) : wpGather (rangeD lo hi) I S turn Q := by
  rw [rangeD_eq]
  exact gather_map D.int f (by rw [rng_len]; exact hl) hI (fun x hx => hs x (mem_rng.mp hx).1 (mem_rng.mp hx).2) hQ
/-- a comprehension by an invariant -/
theorem gather_inv {items : List D} {I : DStore → Prop} {S : DStore} {turn : D → DStore → (Option D → DStore → Prop) → Prop} {Q : List D → DStore → Prop} (Pv : Nat → List D → DStore → Prop) (hl : items.length ≤ sizeLine) (h0 : Pv 0 [] S) (hI : ∀ i acc S, Pv i acc S → I S ∧ acc.length ≤ i)
    (hs : ∀ (i : Nat) x acc S, items[i]? = some x → Pv i acc S → ∀ N : Option D → DStore → Prop, (∀ y S', Pv (i + 1) (acc ++ [y]) S' → N (some y) S') → (∀ S', Pv (i + 1) acc S' → N none S') → turn x S N) (hQ : ∀ acc S, Pv items.length acc S → Q acc S) : wpGather items I S turn Q := by
  refine ⟨fun i acc S' => Pv i acc S' ∧ i ≤ items.length, ⟨h0, Nat.zero_le _⟩, fun i acc S' ⟨h, hi⟩ => ⟨(hI i acc S' h).1, (hI i acc S' h).2, hi⟩, hl, fun i x acc S' ⟨h, hi⟩ e => ?_, fun acc S' ⟨h, _⟩ => hQ acc S' h⟩
  have hlt := (List.getElem?_eq_some_iff.mp e).1
  exact hs i x acc S' e h _ (fun y S'' hP => ⟨hP, hlt⟩) fun S'' hP => ⟨hP, hlt⟩
/-! ### data facts -/
theorem atI_nat' {α : Type} {xs : List α} {i : Int} {x : α} (h0 : 0 ≤ i) (h : xs[i.toNat]? = some x) : atI xs i = some x := by
  have hl := (List.getElem?_eq_some_iff.mp h).1
  unfold atI ixN
  rw [if_pos h0, if_pos (by omega)]
  exact h
theorem mapM_bl (bs : List Bool) : (bs.map D.bl).mapM blOf = some bs := by
  induction bs with
  | nil => rfl
  | cons b bs ih => simp [List.mapM_cons, blOf, ih]
theorem mapM_in (bs : List Int) : (bs.map D.int).mapM inOf = some bs := by
  induction bs with
  | nil => rfl
  | cons b bs ih => simp [List.mapM_cons, inOf, ih]
theorem mul_small_left {i j : Int} (h1 : -(2 ^ 64) < i) (h2 : i < 2 ^ 64) : MulOk i j := .inl (.inl ⟨h1, h2⟩)
theorem mul_small_right {i j : Int} (h1 : -(2 ^ 64) < j) (h2 : j < 2 ^ 64) : MulOk i j := .inl (.inr ⟨h1, h2⟩)
theorem div_small {j : Int} (h0 : j ≠ 0) (h : j.natAbs < 2 ^ 9000) : DivOk j := ⟨h0, PySem.Flt.log2_lt_of (by decide) h⟩
theorem pow_ok {i j : Int} (h0 : 0 ≤ j) (h1 : j ≤ 1000000) (h2 : i.natAbs < 2 ^ 64) : CPow i j := ⟨h0, h1, h2⟩
/-! ### texts of data -/
theorem log2_small {i : Int} (h : i.natAbs < 10 ^ 12) : i.natAbs.log2 < 1920 := by
  have h40 : i.natAbs < 2 ^ 40 := Nat.lt_of_lt_of_le h (by decide)
  have := PySem.Flt.log2_lt_of (by decide) h40
  omega
mutual
/-- a bound on the text's length; none where a number is too great -/
def costP : PyData → Option Nat
  | .none => some 8
  | .bool _ => some 8
  | .int i => if i.natAbs < 10 ^ 12 then some 16 else none
  | .str x => some (reprText x).length
  | .list xs => (costPs xs).map (· + 8)
  | .tuple xs => (costPs xs).map (· + 8)
  | .dict _ => none
def costPs : List PyData → Option Nat
  | [] => some 0
  | x :: xs => (costP x).bind fun a => (costPs xs).map (a + 2 + ·)
end
mutual
theorem cost_ok : ∀ (p : PyData) (c : Nat), costP p = some c → p.showable = true ∧ p.hasDict = false ∧ p.shown.length ≤ c
  | .none, c, h => by simp [costP] at h; subst h; exact ⟨rfl, rfl, by decide⟩
  | .bool b, c, h => by simp [costP] at h; subst h; exact ⟨rfl, rfl, by cases b <;> decide⟩
  | .int i, c, h => by
    simp only [costP] at h
    split at h
    · rename_i hi
      cases h
      exact ⟨by simp [PyData.showable, log2_small hi], rfl, Nat.le_trans (PyData.shown_int_le hi) (by decide)⟩
    · cases h
  | .str x, c, h => by simp [costP] at h; subst h; exact ⟨rfl, rfl, Nat.le_refl _⟩
  | .list xs, c, h => by
    simp only [costP, Option.map_eq_some_iff] at h
    obtain ⟨n, hn, rfl⟩ := h
    obtain ⟨a, b, d⟩ := costs_ok xs n hn
    refine ⟨a, b, ?_⟩
    have := listText_len_le (PyData.shownAll xs)
    show (listText (PyData.shownAll xs)).length ≤ _
    omega
  | .tuple xs, c, h => by
    simp only [costP, Option.map_eq_some_iff] at h
    obtain ⟨n, hn, rfl⟩ := h
    obtain ⟨a, b, d⟩ := costs_ok xs n hn
    refine ⟨a, b, ?_⟩
    have := tupleText_len_le (PyData.shownAll xs)
    show (tupleText (PyData.shownAll xs)).length ≤ _
    omega
  | .dict _, c, h => by simp [costP] at h
theorem costs_ok : ∀ (xs : List PyData) (c : Nat), costPs xs = some c → PyData.showableAll xs = true ∧ PyData.hasDictAll xs = false ∧ ((PyData.shownAll xs).map (·.length)).sum + 2 * (PyData.shownAll xs).length ≤ c
  | [], c, h => by simp [costPs] at h; subst h; exact ⟨rfl, rfl, by simp [PyData.shownAll]⟩
  | x :: xs, c, h => by
    simp only [costPs, Option.bind_eq_some_iff, Option.map_eq_some_iff] at h
    obtain ⟨n, hn, m, hm, rfl⟩ := h
    obtain ⟨a, b, d⟩ := cost_ok x n hn
    obtain ⟨a', b', d'⟩ := costs_ok xs m hm
    refine ⟨by simp [PyData.showableAll, a, a'], by simp [PyData.hasDictAll, b, b'], ?_⟩
    simp only [PyData.shownAll, List.map_cons, List.sum_cons, List.length_cons]
    omega
end
theorem rep_ok {p : PyData} {c : Nat} (h : costP p = some c) (hc : c ≤ 16000000) (hd : p.depth ≤ 50) : RepOk p := by
  obtain ⟨a, b, d⟩ := cost_ok p c h
  exact ⟨a, hd, b, Nat.le_trans d (Nat.le_trans hc (by decide))⟩
mutual
/-- all numbers small -/
def okP : PyData → Bool
  | .none => true
  | .bool _ => true
  | .int i => decide (i.natAbs < 10 ^ 12)
  | .str x => decide ((reprText x).length ≤ 1000)
  | .list xs => okPs xs
  | .tuple xs => okPs xs
  | .dict _ => false
def okPs : List PyData → Bool
  | [] => true
  | x :: xs => okP x && okPs xs
/-- how many signs at most -/
def szP : PyData → Nat
  | .none => 8
  | .bool _ => 8
  | .int _ => 16
  | .str _ => 1000
  | .list xs => szPs xs + 8
  | .tuple xs => szPs xs + 8
  | .dict _ => 0
def szPs : List PyData → Nat
  | [] => 0
  | x :: xs => szP x + 2 + szPs xs
end
mutual
theorem szP_ok : ∀ p : PyData, okP p = true → p.showable = true ∧ p.hasDict = false ∧ p.shown.length ≤ szP p
  | .none, h => ⟨rfl, rfl, by decide⟩
  | .bool b, h => ⟨rfl, rfl, by cases b <;> decide⟩
  | .int i, h => by
    simp only [okP, decide_eq_true_eq] at h
    exact ⟨by simp [PyData.showable, log2_small h], rfl, Nat.le_trans (PyData.shown_int_le h) (show 13 ≤ 16 by decide)⟩
  | .str x, h => by simp only [okP, decide_eq_true_eq] at h; exact ⟨rfl, rfl, h⟩
  | .list xs, h => by
    simp only [okP] at h
    obtain ⟨a, b, d⟩ := szPs_ok xs h
    refine ⟨a, b, ?_⟩
    have := listText_len_le (PyData.shownAll xs)
    show (listText (PyData.shownAll xs)).length ≤ szPs xs + 8
    omega
  | .tuple xs, h => by
    simp only [okP] at h
    obtain ⟨a, b, d⟩ := szPs_ok xs h
    refine ⟨a, b, ?_⟩
    have := tupleText_len_le (PyData.shownAll xs)
    show (tupleText (PyData.shownAll xs)).length ≤ szPs xs + 8
    omega
  | .dict _, h => by simp [okP] at h
theorem szPs_ok : ∀ xs : List PyData, okPs xs = true → PyData.showableAll xs = true ∧ PyData.hasDictAll xs = false ∧ ((PyData.shownAll xs).map (·.length)).sum + 2 * (PyData.shownAll xs).length ≤ szPs xs
  | [], h => ⟨rfl, rfl, by simp [PyData.shownAll]⟩
  | x :: xs, h => by
    simp only [okPs, Bool.and_eq_true] at h
    obtain ⟨a, b, d⟩ := szP_ok x h.1
    obtain ⟨a', b', d'⟩ := szPs_ok xs h.2
    refine ⟨by simp [PyData.showableAll, a, a'], by simp [PyData.hasDictAll, b, b'], ?_⟩
    simp only [PyData.shownAll, List.map_cons, List.sum_cons, List.length_cons, szPs]
    omega
end
theorem rep_ok2 {p : PyData} (h : okP p = true) (hs : szP p ≤ 16000000) (hd : p.depth ≤ 50) : RepOk p := by
  obtain ⟨a, b, d⟩ := szP_ok p h
  exact ⟨a, hd, b, Nat.le_trans d (Nat.le_trans hs (by decide))⟩
end DL

namespace DL
open PySem PySem.Spec PyProof.Rows L2
/-! ### step by step: each rule fires where the environment is written out -/
def lcTurn (G : Fns) (elt : CE) (tg : CT) (ifs : List CB) (ρ : DEnv) : D → DStore → (Option D → DStore → Prop) → Prop := fun x S' N => wpG G tg x ρ S' fun ρ2 S2 => wpBs G ifs ρ2 S2 fun r S3 => if r = true then wpE G elt ρ2 S3 fun y S4 => N (some y) S4 else N none S3
def forTurn (G : Fns) (t : CT) (b : List CS) (rt : QE) (nx : DEnv → DStore → Prop) : D → DEnv → DStore → (DEnv → DStore → Prop) → Prop := fun x ρ' S' N => wpG G t x ρ' S' fun ρ2 S2 => wpSs G b ρ2 S2 ⟨N, rt, nx, N⟩
def whileTest (G : Fns) (c : CB) : DEnv → DStore → (Bool → DStore → Prop) → Prop := fun ρ S Q => wpB G c ρ S Q
def whileTurn (G : Fns) (b : List CS) (rt : QE) (nx : DEnv → DStore → Prop) : DEnv → DStore → (DEnv → DStore → Prop) → Prop := fun ρ S N => wpSs G b ρ S ⟨N, rt, nx, N⟩
section
variable {G : Fns} {a b c : CE} {r : Option D} {ρ : DEnv} {S : DStore} {Q : QE} {op op' : Operator} {i j : Nat} {K : DEnds}
theorem e_var : wpE G (.var i) (r :: ρ) S Q = ∃ d, (r :: ρ)[i]? = some (some d) ∧ Q d S := by simp only [wpE]
theorem e_con {k : CC} : wpE G (.con k) (r :: ρ) S Q = Q k.d S := by simp only [wpE]
theorem e_glo : wpE G (.glo j) (r :: ρ) S Q = Q (G.gl j) S := by simp only [wpE]
theorem e_bin {m : Bool} : wpE G (.bin op m a b) (r :: ρ) S Q = wpE G a (r :: ρ) S fun x S1 => wpE G b (r :: ρ) S1 fun y S2 => binD op m x y S2 Q := by simp only [wpE]
theorem e_neg : wpE G (.neg a) (r :: ρ) S Q = wpE G a (r :: ρ) S fun x S1 => ∃ i, x = .int i ∧ Q (.int (-i)) S1 := by simp only [wpE]
theorem e_cmp {op : CmpOp} : wpE G (.cmp op a b) (r :: ρ) S Q = wpE G a (r :: ρ) S fun x S1 => wpE G b (r :: ρ) S1 fun y S2 => cmpD op S2 x y fun r => Q (.bl r) S2 := by simp only [wpE]
theorem e_chain {op op' : CmpOp} : wpE G (.chain op op' a b c) (r :: ρ) S Q = wpE G a (r :: ρ) S fun x S1 => wpE G b (r :: ρ) S1 fun y S2 => cmpD op S2 x y fun t => if t = true then wpE G c (r :: ρ) S2 fun z S3 => cmpD op' S3 y z fun r' => Q (.bl r') S3 else Q (.bl false) S2 := by simp only [wpE]
theorem e_and : wpE G (.and_ a b) (r :: ρ) S Q = wpE G a (r :: ρ) S fun x S1 => ∃ c, x = .bl c ∧ if c = true then wpE G b (r :: ρ) S1 Q else Q (.bl false) S1 := by simp only [wpE]
theorem e_or : wpE G (.or_ a b) (r :: ρ) S Q = wpE G a (r :: ρ) S fun x S1 => ∃ c, x = .bl c ∧ if c = true then Q (.bl true) S1 else wpE G b (r :: ρ) S1 Q := by simp only [wpE]
theorem e_not : wpE G (.not_ a) (r :: ρ) S Q = wpE G a (r :: ρ) S fun x S1 => ∃ c, x = .bl c ∧ Q (.bl (!c)) S1 := by simp only [wpE]
theorem e_ite {t : CB} : wpE G (.ite t a b) (r :: ρ) S Q = wpB G t (r :: ρ) S fun c S1 => if c = true then wpE G a (r :: ρ) S1 Q else wpE G b (r :: ρ) S1 Q := by simp only [wpE]
theorem e_tup {es : List CE} : wpE G (.tup es) (r :: ρ) S Q = wpEs G es (r :: ρ) S fun ds S1 => Q (.tup ds) S1 := by simp only [wpE]
theorem e_lst {m : Bool} {es : List CE} : wpE G (.lst m es) (r :: ρ) S Q = wpEs G es (r :: ρ) S fun ds S1 => newL m ds S1 Q := by simp only [wpE]
theorem e_ix : wpE G (.ix a b) (r :: ρ) S Q = wpE G a (r :: ρ) S fun x S1 => wpE G b (r :: ρ) S1 fun y S2 => ixD S2 x y fun d => Q d S2 := by simp only [wpE]
theorem e_sl {m : Bool} {lo hi : CO} : wpE G (.sl m a lo hi) (r :: ρ) S Q = wpE G a (r :: ρ) S fun x S1 => wpO G lo (r :: ρ) S1 fun l S2 => wpO G hi (r :: ρ) S2 fun h S3 => slD m S3 x l h Q := by simp only [wpE]
theorem e_call {es : List CE} : wpE G (.call j es) (r :: ρ) S Q = wpEs G es (r :: ρ) S fun ds S1 => G.fn j ds S1 Q := by simp only [wpE]
theorem e_callK {es kes : List CE} {perm : List Nat} : wpE G (.callK j es kes perm) (r :: ρ) S Q = wpEs G es (r :: ρ) S fun ds S1 => wpEs G kes (r :: ρ) S1 fun ks S2 => G.fn j (ds ++ perm.map fun i => ks.getD i .non) S2 Q := by simp only [wpE]
theorem e_bi {k : BI} {m : Bool} {es : List CE} : wpE G (.bi k m es) (r :: ρ) S Q = wpEs G es (r :: ρ) S fun ds S1 => biD k m ds S1 Q := by simp only [wpE]
theorem e_dnewK : wpE G .dnewK (r :: ρ) S Q = Q (.ref S.length) (S ++ [.dkk []]) := by simp only [wpE]
theorem e_dnew : wpE G .dnew (r :: ρ) S Q = Q (.ref S.length) (S ++ [.dct []]) := by simp only [wpE]
theorem e_dnew1 {es : List CE} {v : CE} : wpE G (.dnew1 es v) (r :: ρ) S Q = wpEs G es (r :: ρ) (S ++ [.dct []]) fun ys S1 => wpE G v (r :: ρ) S1 fun z S2 => ∃ ks, keysOf ys = some ks ∧ S2[S.length]? = some (.dct []) ∧ Q (.ref S.length) (S2.set S.length (.dct [(ks, z)])) := by simp only [wpE]
theorem f_str {i : Int} : biD .str1 m [.int i] S Q = ∃ j, D.int i = .int j ∧ j.natAbs.log2 < 1920 ∧ Q (.str (toString j)) S := rfl
theorem e_lz {m : Bool} : wpE G (.lz m a b) (r :: ρ) S Q = wpE G a (r :: ρ) S fun x S1 => wpE G b (r :: ρ) S1 fun y S2 => ∃ xs ys, lstOf S2 x = some xs ∧ lstOf S2 y = some ys ∧ (xs.zip ys).length ≤ sizeLine ∧ newL m (zipD xs ys) S2 Q := by simp only [wpE]
theorem e_ktup {es : List CE} : wpE G (.ktup es) (r :: ρ) S Q = wpEs G es (r :: ρ) S fun ds S1 => ∃ ks, keysOf ds = some ks ∧ Q (.key ks) S1 := by simp only [wpE]
theorem e_lrg : wpE G (.lrg m a b) (r :: ρ) S Q = wpE G a (r :: ρ) S fun x S1 => wpE G b (r :: ρ) S1 fun y S2 => ∃ i j, x = .int i ∧ y = .int j ∧ Sm i ∧ Sm j ∧ (j - i).toNat ≤ 1000000 ∧ newL m (rangeD i j) S2 Q := by simp only [wpE]
theorem e_popE : wpE G (.popE a) (r :: ρ) S Q = wpE G a (r :: ρ) S fun x S1 => ∃ n xs y, x = .ref n ∧ S1[n]? = some (.lst (xs ++ [y])) ∧ Q y (S1.set n (.lst xs)) := by simp only [wpE]
theorem e_kix : wpE G (.kix a b) (r :: ρ) S Q = wpE G a (r :: ρ) S fun x S1 => wpE G b (r :: ρ) S1 fun y S2 => ∃ n kvs k v, x = .ref n ∧ dkkOf S2 n = some kvs ∧ keyOf y = some k ∧ valD kvs k = some v ∧ Q v S2 := by simp only [wpE]
theorem e_kget : wpE G (.kget a b c) (r :: ρ) S Q = wpE G a (r :: ρ) S fun x S1 => ∃ n, x = .ref n ∧ KAt S1 n ∧ wpE G b (r :: ρ) S1 fun y S2 => wpE G c (r :: ρ) S2 fun w S3 => ∃ kvs k, dkkOf S3 n = some kvs ∧ keyOf y = some k ∧ Q ((valD kvs k).getD w) S3 := by simp only [wpE]
theorem e_dlit {ks : List Str} {es : List CE} : wpE G (.dlit ks es) (r :: ρ) S Q = wpEs G es (r :: ρ) (S ++ [.dkk []]) fun ds S1 => S1[S.length]? = some (.dkk []) ∧ Q (.ref S.length) (S1.set S.length (.dkk (mergeD [] ((ks.map Sum.inr).zip ds)))) := by simp only [wpE]
theorem e_dcomp {key val : CE} {tg : CT} {it : CI} {own : List Nat} : wpE G (.dcomp key val tg it own) (r :: ρ) S Q = wpI G it (r :: ρ) S fun items I S1 => ∃ W : Nat → List (L2.Key × D) → DStore → Prop, W 0 [] S1 ∧ (∀ i acc S, W i acc S → I S ∧ i ≤ items.length) ∧
      (∀ i x acc S, W i acc S → items[i]? = some x → wpG G tg x (wipeD (r :: ρ) own) S fun ρ2 S2 => wpE G key ρ2 S2 fun y S3 => wpE G val ρ2 S3 fun z S4 => ∃ k, keyOf y = some k ∧ acc.length < sizeLine ∧ W (i + 1) (putD acc k z) S4) ∧
      ∀ acc S, W items.length acc S → Q (.ref S.length) (S ++ [.dkk acc]) := by simp only [wpE]
theorem e_rev : wpE G (.rev a) (r :: ρ) S Q = wpE G a (r :: ρ) S fun x S1 => ∃ xs, x = .tup xs ∧ Q (.tup xs.reverse) S1 := by simp only [wpE]
theorem f_reprE {d : D} : biD .reprE m [d] S Q = ∃ p, purE S d = some p ∧ RepOkE p ∧ Q (.str p.shown) S := rfl
theorem e_dget2 {x : CE} {es : List CE} : wpE G (.dget2 a es x) (r :: ρ) S Q = wpE G a (r :: ρ) S fun d S1 => ∃ n, d = .ref n ∧ DAt S1 n ∧ wpEs G es (r :: ρ) S1 fun ys S2 => wpE G x (r :: ρ) S2 fun z S3 => ∃ kvs ks, dctOf S3 n = some kvs ∧ keysOf ys = some ks ∧ Q ((valD kvs ks).getD z) S3 := by simp only [wpE]
theorem e_isi {t : TyB} : wpE G (.isi t a) (r :: ρ) S Q = wpE G a (r :: ρ) S fun x S1 => isiP t x S1 Q := by simp only [wpE]
theorem e_tix {e : CE} : wpE G (.tindex i e) (r :: ρ) S Q = ∃ ys : List Str, G.gl i = .tup (ys.map D.str) ∧ wpE G e (r :: ρ) S fun y S2 => ∃ z j, y = .str z ∧ ys[j]? = some z ∧ (∀ m, m < j → ys[m]? ≠ some z) ∧ Q (.int (j : Nat)) S2 := by simp only [wpE]
theorem e_lc {m : Bool} {tg : CT} {it : CI} {ifs : List CB} {own : List Nat} : wpE G (.lc m a tg it ifs own) (r :: ρ) S Q = wpI G it (r :: ρ) S fun items I S1 => wpGather items I S1 (lcTurn G a tg ifs (wipeD (r :: ρ) own)) fun acc S' => newL m acc S' Q := by simp only [wpE]; rfl
theorem es_nil {Q : List D → DStore → Prop} : wpEs G [] (r :: ρ) S Q = Q [] S := by simp only [wpEs]
theorem es_cons {es : List CE} {Q : List D → DStore → Prop} : wpEs G (a :: es) (r :: ρ) S Q = wpE G a (r :: ρ) S fun d S1 => wpEs G es (r :: ρ) S1 fun ds S2 => Q (d :: ds) S2 := by simp only [wpEs]
theorem o_no {Q : Option Int → DStore → Prop} : wpO G .no (r :: ρ) S Q = Q none S := by simp only [wpO]
theorem o_yes {Q : Option Int → DStore → Prop} : wpO G (.yes a) (r :: ρ) S Q = wpE G a (r :: ρ) S fun x S1 => ∃ i, x = .int i ∧ Q (some i) S1 := by simp only [wpO]
section
variable {x y : CB} {Q : Bool → DStore → Prop}
theorem b_and : wpB G (.cand x y) (r :: ρ) S Q = wpB G x (r :: ρ) S fun c S1 => if c = true then wpB G y (r :: ρ) S1 Q else Q false S1 := by simp only [wpB]
theorem b_or : wpB G (.cor x y) (r :: ρ) S Q = wpB G x (r :: ρ) S fun c S1 => if c = true then Q true S1 else wpB G y (r :: ρ) S1 Q := by simp only [wpB]
theorem b_not : wpB G (.cnot x) (r :: ρ) S Q = wpB G x (r :: ρ) S fun c S1 => Q (!c) S1 := by simp only [wpB]
theorem b_cmp {op : CmpOp} : wpB G (.ccmp op a b) (r :: ρ) S Q = wpE G a (r :: ρ) S fun x S1 => wpE G b (r :: ρ) S1 fun y S2 => cmpD op S2 x y fun t => Q t S2 := by simp only [wpB]
theorem b_cnil : wpB G (.cnil a b) (r :: ρ) S Q = wpE G a (r :: ρ) S fun x S1 => wpE G b (r :: ρ) S1 fun y S2 => y = .lst [] ∧ ∃ xs, lstOf S2 x = some xs ∧ Q (!xs.isEmpty) S2 := by simp only [wpB]
theorem b_chain {op op' : CmpOp} : wpB G (.cchain op op' a b c) (r :: ρ) S Q = wpE G a (r :: ρ) S fun x S1 => wpE G b (r :: ρ) S1 fun y S2 => cmpD op S2 x y fun t => if t = true then wpE G c (r :: ρ) S2 fun z S3 => cmpD op' S3 y z fun r' => Q r' S3 else Q false S2 := by simp only [wpB]
theorem b_val : wpB G (.cval a) (r :: ρ) S Q = wpE G a (r :: ρ) S fun x S1 => truD S1 x fun t => Q t S1 := by simp only [wpB]
theorem bs_nil : wpBs G [] (r :: ρ) S Q = Q true S := by simp only [wpBs]
theorem bs_cons {bs : List CB} : wpBs G (x :: bs) (r :: ρ) S Q = wpB G x (r :: ρ) S fun t S1 => if t = true then wpBs G bs (r :: ρ) S1 Q else Q false S1 := by simp only [wpBs]
end
section
variable {d : D} {ts : List CT} {t : CT} {Q : DEnv → DStore → Prop}
theorem g_name : wpG G (.name i) d (r :: ρ) S Q = Q ((r :: ρ).set i (some d)) S := by simp only [wpG]
theorem g_tup : wpG G (.tup ts) d (r :: ρ) S Q = unpD S d fun xs => xs.length = ts.length ∧ wpGs G ts xs (r :: ρ) S Q := by simp only [wpG]
theorem u_tup {xs : List D} {k : List D → Prop} : unpD S (.tup xs) k = k xs := rfl
theorem u_lst {xs : List D} {k : List D → Prop} : unpD S (.lst xs) k = k xs := by simp [unpD, lstOf]
theorem g_sub : wpG G (.sub a b) d (r :: ρ) S Q = wpE G a (r :: ρ) S fun x S1 => wpE G b (r :: ρ) S1 fun y S2 => ∃ n xs k j, x = .ref n ∧ y = .int k ∧ S2[n]? = some (.lst xs) ∧ ixN xs.length k = some j ∧ Q (r :: ρ) (S2.set n (.lst (xs.set j d))) := by simp only [wpG]
theorem g_kput : wpG G (.kput a b) d (r :: ρ) S Q = wpE G a (r :: ρ) S fun x S1 => wpE G b (r :: ρ) S1 fun y S2 => ∃ n kvs k, x = .ref n ∧ S2[n]? = some (.dkk kvs) ∧ keyOf y = some k ∧ kvs.length < sizeLine ∧ Q (r :: ρ) (S2.set n (.dkk (putD kvs k d))) := by simp only [wpG]
theorem g_ksub : wpG G (.ksub a b) d (r :: ρ) S Q = wpE G a (r :: ρ) S fun x S1 => wpE G b (r :: ρ) S1 fun y S2 => ∃ n kvs ks, x = .ref n ∧ y = .key ks ∧ S2[n]? = some (.dct kvs) ∧ kvs.length < sizeLine ∧ Q (r :: ρ) (S2.set n (.dct (putD kvs ks d))) := by simp only [wpG]
theorem g_dsub {es : List CE} : wpG G (.dsub a es) d (r :: ρ) S Q = wpE G a (r :: ρ) S fun x S1 => wpEs G es (r :: ρ) S1 fun ys S2 => ∃ n kvs ks, x = .ref n ∧ S2[n]? = some (.dct kvs) ∧ keysOf ys = some ks ∧ kvs.length < sizeLine ∧ Q (r :: ρ) (S2.set n (.dct (putD kvs ks d))) := by simp only [wpG]
theorem gs_nil {ds : List D} : wpGs G [] ds (r :: ρ) S Q = Q (r :: ρ) S := by simp only [wpGs]
theorem gs_cons {ds : List D} : wpGs G (t :: ts) (d :: ds) (r :: ρ) S Q = wpG G t d (r :: ρ) S fun ρ1 S1 => wpGs G ts ds ρ1 S1 Q := by
  simp only [wpGs, List.cons.injEq]
  apply propext
  constructor
  · rintro ⟨_, _, ⟨rfl, rfl⟩, h⟩; exact h
  · intro h; exact ⟨_, _, ⟨rfl, rfl⟩, h⟩
end
section
variable {R : RI}
theorem i_keys : wpI G (.keys a) (r :: ρ) S R = wpE G a (r :: ρ) S fun x S1 => ∃ n kvs, x = .ref n ∧ S1[n]? = some (.dlk kvs) ∧ R (kvs.map fun p => D.tup (p.1.map keyD)) (fun _ => True) S1 := by simp only [wpI]
theorem i_kkeys : wpI G (.kkeys a) (r :: ρ) S R = wpE G a (r :: ρ) S fun x S1 => ∃ n kvs, x = .ref n ∧ S1[n]? = some (.dkl kvs) ∧ R (kvs.map fun p => keyD p.1) (fun _ => True) S1 := by simp only [wpI]
theorem i_kitems : wpI G (.kitems a) (r :: ρ) S R = wpE G a (r :: ρ) S fun x S1 => ∃ n kvs, x = .ref n ∧ S1[n]? = some (.dkl kvs) ∧ R (kvs.map fun p => D.tup [keyD p.1, p.2]) (fun _ => True) S1 := by simp only [wpI]
theorem i_items : wpI G (.items a) (r :: ρ) S R = wpE G a (r :: ρ) S fun x S1 => ∃ n kvs, x = .ref n ∧ S1[n]? = some (.dlk kvs) ∧ R (kvs.map fun p => D.tup [D.tup (p.1.map keyD), p.2]) (fun _ => True) S1 := by simp only [wpI]
theorem i_seq : wpI G (.seq a) (r :: ρ) S R = wpE G a (r :: ρ) S fun x S1 => itD S1 x R := by simp only [wpI]
theorem i_range1 : wpI G (.range1 a) (r :: ρ) S R = wpE G a (r :: ρ) S fun x S1 => ∃ j, x = .int j ∧ Sm j ∧ R (rangeD 0 j) (fun _ => True) S1 := by simp only [wpI]
theorem i_range3 : wpI G (.range3 a b c) (r :: ρ) S R = wpE G a (r :: ρ) S fun x S1 => wpE G b (r :: ρ) S1 fun y S2 => wpE G c (r :: ρ) S2 fun z S3 => ∃ i j k n, x = .int i ∧ y = .int j ∧ z = .int k ∧ RgC i j k n ∧ R (range3D i k n) (fun _ => True) S3 := by simp only [wpI]
theorem i_enum : wpI G (.enum a) (r :: ρ) S R = wpE G a (r :: ρ) S fun x S1 => enumP S1 x R := by simp only [wpI]
theorem i_zip3 {c : CE} : wpI G (.zip3 a b c) (r :: ρ) S R = wpE G a (r :: ρ) S fun x S1 => wpE G b (r :: ρ) S1 fun y S2 => wpE G c (r :: ρ) S2 fun z S3 => zip3P S3 x y z R := by simp only [wpI]
theorem i_zip : wpI G (.zip2 a b) (r :: ρ) S R = wpE G a (r :: ρ) S fun x S1 => wpE G b (r :: ρ) S1 fun y S2 => zipP S2 x y R := by simp only [wpI]
theorem i_range2 : wpI G (.range2 a b) (r :: ρ) S R = wpE G a (r :: ρ) S fun x S1 => wpE G b (r :: ρ) S1 fun y S2 => ∃ i j, x = .int i ∧ y = .int j ∧ Sm i ∧ Sm j ∧ R (rangeD i j) (fun _ => True) S2 := by simp only [wpI]
end
section
variable {e : CE} {t : CT} {ss s1 s2 : List CS} {s : CS} {k : Nat} {cb : CB} {it : CI} {nx : DEnv → DStore → Prop} {rt : QE} {bk ct : DEnv → DStore → Prop}
theorem s_nil : wpSs G [] (r :: ρ) S ⟨nx, rt, bk, ct⟩ = nx (r :: ρ) S := by simp only [wpSs]
theorem s_cons : wpSs G (s :: ss) (r :: ρ) S ⟨nx, rt, bk, ct⟩ = wpS G s (r :: ρ) S ⟨fun ρ1 S1 => wpSs G ss ρ1 S1 ⟨nx, rt, bk, ct⟩, rt, bk, ct⟩ := by simp only [wpSs]
theorem s_expr : wpS G (.expr e) (r :: ρ) S ⟨nx, rt, bk, ct⟩ = wpE G e (r :: ρ) S fun _ S1 => nx (r :: ρ) S1 := by simp only [wpS]
theorem s_ret : wpS G (.ret e) (r :: ρ) S ⟨nx, rt, bk, ct⟩ = wpE G e (r :: ρ) S rt := by simp only [wpS]
theorem s_retN : wpS G .retN (r :: ρ) S ⟨nx, rt, bk, ct⟩ = rt .non S := by simp only [wpS]
theorem s_pass : wpS G .pass (r :: ρ) S ⟨nx, rt, bk, ct⟩ = nx (r :: ρ) S := by simp only [wpS]
theorem s_brk : wpS G .brk (r :: ρ) S ⟨nx, rt, bk, ct⟩ = bk (r :: ρ) S := by simp only [wpS]
theorem s_cont : wpS G .cont (r :: ρ) S ⟨nx, rt, bk, ct⟩ = ct (r :: ρ) S := by simp only [wpS]
theorem s_asg : wpS G (.asg t e) (r :: ρ) S ⟨nx, rt, bk, ct⟩ = wpE G e (r :: ρ) S fun d S1 => wpG G t d (r :: ρ) S1 nx := by simp only [wpS]
theorem s_par2 : wpS G (.par2 i j a b) (r :: ρ) S ⟨nx, rt, bk, ct⟩ = wpE G a (r :: ρ) S fun x S1 => wpE G b (r :: ρ) S1 fun y S2 => nx (((r :: ρ).set i (some x)).set j (some y)) S2 := by simp only [wpS]
theorem s_par3 : wpS G (.par3 i j k a b c) (r :: ρ) S ⟨nx, rt, bk, ct⟩ = wpE G a (r :: ρ) S fun x S1 => wpE G b (r :: ρ) S1 fun y S2 => wpE G c (r :: ρ) S2 fun z S3 => nx ((((r :: ρ).set i (some x)).set j (some y)).set k (some z)) S3 := by simp only [wpS]
theorem s_setLc : wpS G (.setLc i e) (r :: ρ) S ⟨nx, rt, bk, ct⟩ = wpE G e (r :: ρ) S fun d S1 => nx ((r :: ρ).set i (some d)) S1 := by rw [wpS]
theorem s_augA : wpS G (.aug i .Add e) (r :: ρ) S ⟨nx, rt, bk, ct⟩ = ∃ x, (r :: ρ)[i]? = some (some x) ∧ wpE G e (r :: ρ) S fun y S1 => i2 x y fun a b => nx ((r :: ρ).set i (some (.int (a + b)))) S1 := by simp only [wpS]
theorem s_augS : wpS G (.aug i .Sub e) (r :: ρ) S ⟨nx, rt, bk, ct⟩ = ∃ x, (r :: ρ)[i]? = some (some x) ∧ wpE G e (r :: ρ) S fun y S1 => i2 x y fun a b => nx ((r :: ρ).set i (some (.int (a - b)))) S1 := by simp only [wpS]
theorem s_append : wpS G (.append a e) (r :: ρ) S ⟨nx, rt, bk, ct⟩ = wpE G a (r :: ρ) S fun x S1 => ∃ n, x = .ref n ∧ LAt S1 n ∧ wpE G e (r :: ρ) S1 fun y S2 => ∃ xs, S2[n]? = some (.lst xs) ∧ xs.length < sizeLine ∧ nx (r :: ρ) (S2.set n (.lst (xs ++ [y]))) := by simp only [wpS]
theorem s_extend {a e : CE} : wpS G (.extend a e) (r :: ρ) S ⟨nx, rt, bk, ct⟩ = wpE G a (r :: ρ) S fun x S1 => ∃ n, x = .ref n ∧ LAt S1 n ∧ wpE G e (r :: ρ) S1 fun y S2 => ∃ xs zs, S2[n]? = some (.lst xs) ∧ lstOf S2 y = some zs ∧ xs.length + zs.length ≤ sizeLine ∧ nx (r :: ρ) (S2.set n (.lst (xs ++ zs))) := by rw [wpS]
theorem s_popS {a : CE} : wpS G (.popS a) (r :: ρ) S ⟨nx, rt, bk, ct⟩ = wpE G a (r :: ρ) S fun x S1 => ∃ n xs y, x = .ref n ∧ S1[n]? = some (.lst (xs ++ [y])) ∧ nx (r :: ρ) (S1.set n (.lst xs)) := by rw [wpS]
theorem s_if : wpS G (.if_ cb s1 s2) (r :: ρ) S ⟨nx, rt, bk, ct⟩ = wpB G cb (r :: ρ) S fun t S1 => if t = true then wpSs G s1 (r :: ρ) S1 ⟨nx, rt, bk, ct⟩ else wpSs G s2 (r :: ρ) S1 ⟨nx, rt, bk, ct⟩ := by simp only [wpS]
theorem s_while : wpS G (.while_ cb s1) (r :: ρ) S ⟨nx, rt, bk, ct⟩ = wpLoop (r :: ρ) S (whileTest G cb) (whileTurn G s1 rt nx) nx := by simp only [wpS]; rfl
theorem s_lockK {st : CS} : wpS G (.lockK st) (r :: ρ) S ⟨nx, rt, bk, ct⟩ = ∃ n kvs, S[n]? = some (.dkk kvs) ∧ wpS G st (r :: ρ) (S.set n (.dkl kvs)) ⟨fun ρ' S' => nx ρ' (S'.set n (.dkk kvs)), fun d S' => rt d (S'.set n (.dkk kvs)), fun ρ' S' => bk ρ' (S'.set n (.dkk kvs)), fun ρ' S' => ct ρ' (S'.set n (.dkk kvs))⟩ := by rw [wpS]
theorem s_lock {st : CS} : wpS G (.lock st) (r :: ρ) S ⟨nx, rt, bk, ct⟩ = ∃ n kvs, S[n]? = some (.dct kvs) ∧ wpS G st (r :: ρ) (S.set n (.dlk kvs)) ⟨fun ρ' S' => nx ρ' (S'.set n (.dct kvs)), fun d S' => rt d (S'.set n (.dct kvs)), fun ρ' S' => bk ρ' (S'.set n (.dct kvs)), fun ρ' S' => ct ρ' (S'.set n (.dct kvs))⟩ := by rw [wpS]
theorem s_for : wpS G (.for_ t it s1) (r :: ρ) S ⟨nx, rt, bk, ct⟩ = wpI G it (r :: ρ) S fun items I S1 => wpWalk items I (r :: ρ) S1 (forTurn G t s1 rt nx) nx := by simp only [wpS]; rfl
end
end
/-! ### operations on written data -/
section
variable {S : DStore} {Q : QE} {m : Bool} {x y : Int} {QB : Bool → Prop}
theorem o_add : binD .Add m (.int x) (.int y) S Q = Q (.int (x + y)) S := rfl
theorem o_addT {a b : List D} : binD .Add m (.tup a) (.tup b) S Q = (a.length + b.length ≤ sizeLine ∧ Q (.tup (a ++ b)) S) := rfl
theorem o_addL {a b : List D} : binD .Add m (.lst a) (.lst b) S Q = (a.length + b.length ≤ sizeLine ∧ newL m (a ++ b) S Q) := by
  simp [binD, addD, lstOf]
theorem o_sub : binD .Sub m (.int x) (.int y) S Q = Q (.int (x - y)) S := rfl
theorem o_mul : binD .Mult m (.int x) (.int y) S Q = (MulOk x y ∧ Q (.int (x * y)) S) := rfl
theorem o_mulL {a : List D} : binD .Mult m (.lst a) (.int y) S Q = (-(2 ^ 63) ≤ y ∧ y < 2 ^ 63 ∧ a.length * y.toNat ≤ sizeLine ∧ newL m (List.replicate y.toNat a).flatten S Q) := by
  simp [binD, mulD, lstOf]
theorem o_mulT {a : List D} : binD .Mult m (.tup a) (.int y) S Q = (a ≠ [] ∧ 0 ≤ y ∧ y ≤ 1000 ∧ a.length ≤ 1000 ∧ Q (.tup (List.replicate y.toNat a).flatten) S) := rfl
theorem o_fdiv : binD .FloorDiv m (.int x) (.int y) S Q = (DivOk y ∧ Q (.int (x.fdiv y)) S) := rfl
theorem o_mod : binD .Mod m (.int x) (.int y) S Q = (y ≠ 0 ∧ Q (.int (x.fmod y)) S) := rfl
theorem o_pow : binD .Pow m (.int x) (.int y) S Q = (CPow x y ∧ Q (.int (x ^ y.toNat)) S) := rfl
theorem o_shl : binD .LShift m (.int x) (.int y) S Q = (CShl x y ∧ Q (.int (x * 2 ^ y.toNat)) S) := rfl
theorem o_shr : binD .RShift m (.int x) (.int y) S Q = (0 ≤ y ∧ Q (.int (x / 2 ^ y.toNat)) S) := rfl
theorem q_lt : cmpD .Lt S (.int x) (.int y) QB = QB (decide (x < y)) := rfl
theorem q_le : cmpD .LtE S (.int x) (.int y) QB = QB (decide (x ≤ y)) := rfl
theorem q_gt : cmpD .Gt S (.int x) (.int y) QB = QB (decide (y < x)) := rfl
theorem q_ge : cmpD .GtE S (.int x) (.int y) QB = QB (decide (y ≤ x)) := rfl
theorem q_eqI : cmpD .Eq S (.int x) (.int y) QB = QB (decide (x = y)) := rfl
theorem q_neI : cmpD .NotEq S (.int x) (.int y) QB = QB (!decide (x = y)) := rfl
theorem q_eqS {x y : Str} : cmpD .Eq S (.str x) (.str y) QB = QB (decide (x = y)) := rfl
theorem q_neS {x y : Str} : cmpD .NotEq S (.str x) (.str y) QB = QB (!decide (x = y)) := rfl
theorem q_eqB {x y : Bool} : cmpD .Eq S (.bl x) (.bl y) QB = QB (decide (x = y)) := rfl
theorem q_neB {x y : Bool} : cmpD .NotEq S (.bl x) (.bl y) QB = QB (!decide (x = y)) := rfl
theorem q_isN {d : D} : cmpD .Is S d .non QB = QB (isNon d) := rfl
theorem q_notN {d : D} : cmpD .IsNot S d .non QB = QB (!isNon d) := rfl
theorem q_isB {x y : Bool} : cmpD .Is S (.bl x) (.bl y) QB = QB (decide (x = y)) := by simp [cmpD, isD]
theorem q_notB {x y : Bool} : cmpD .IsNot S (.bl x) (.bl y) QB = QB (!decide (x = y)) := by simp [cmpD, isD]
theorem t_bl {b : Bool} : truD S (.bl b) QB = QB b := rfl
theorem t_int {i : Int} : truD S (.int i) QB = QB (i != 0) := rfl
theorem x_tup {xs : List D} {QD : D → Prop} : ixD S (.tup xs) (.int x) QD = ∃ v, atI xs x = some v ∧ QD v := by simp [ixD, seqOf]
theorem x_lst {xs : List D} {QD : D → Prop} : ixD S (.lst xs) (.int x) QD = ∃ v, atI xs x = some v ∧ QD v := by simp [ixD, seqOf, lstOf]
theorem x_scr {xs : List D} {QD : D → Prop} : ixD S (.scr xs) (.int x) QD = ∃ v, atI xs x = some v ∧ QD v := by simp [ixD, seqOf]
def cellL : Option Cell → Option (List D)
  | some (.lst xs) => some xs
  | _ => none
theorem lstOf_ref {n : Nat} : lstOf S (.ref n) = cellL S[n]? := by
  simp only [lstOf]
  cases S[n]? with
  | none => rfl
  | some c => cases c <;> rfl
theorem x_ref {n : Nat} {QD : D → Prop} : ixD S (.ref n) (.int x) QD = ∃ xs, cellL S[n]? = some xs ∧ ∃ v, atI xs x = some v ∧ QD v := by simp [ixD, seqOf, lstOf_ref]
theorem x_key {n : Nat} {ks : List L2.Key} {QD : D → Prop} : ixD S (.ref n) (.key ks) QD = ∃ kvs v, dctOf S n = some kvs ∧ valD kvs ks = some v ∧ QD v := by
  unfold ixD
  simp only [D.ref.injEq, eq_iff_iff]
  constructor
  · rintro ⟨n', kvs, v, rfl, h⟩; exact ⟨kvs, v, h⟩
  · rintro ⟨kvs, v, h⟩; exact ⟨n, kvs, v, rfl, h⟩
theorem x_dct {n : Nat} {ys : List D} {QD : D → Prop} : ixD S (.ref n) (.tup ys) QD = ∃ kvs ks v, dctOf S n = some kvs ∧ keysOf ys = some ks ∧ valD kvs ks = some v ∧ QD v := by
  simp only [ixD]
  apply propext
  constructor
  · rintro ⟨n', kvs, ks, v, e, h⟩
    cases e; exact ⟨kvs, ks, v, h⟩
  · rintro ⟨kvs, ks, v, h⟩
    exact ⟨n, kvs, ks, v, rfl, h⟩
theorem c_some {xs : List D} : cellL (some (.lst xs)) = some xs := rfl
theorem n_f {ds : List D} : newL false ds S Q = Q (.lst ds) S := rfl
theorem n_t {ds : List D} : newL true ds S Q = Q (.ref S.length) (S ++ [.lst ds]) := rfl
theorem f_lenT {xs : List D} : biD .len m [.tup xs] S Q = Q (.int xs.length) S := by simp [biD, seqOf]
theorem f_lenL {xs : List D} : biD .len m [.lst xs] S Q = Q (.int xs.length) S := by simp [biD, seqOf, lstOf]
theorem f_lenC {xs : List D} : biD .len m [.scr xs] S Q = Q (.int xs.length) S := by simp [biD, seqOf]
theorem f_lenR {n : Nat} : biD .len m [.ref n] S Q = ∃ xs, cellL S[n]? = some xs ∧ Q (.int xs.length) S := by simp [biD, seqOf, lstOf_ref]
theorem f_abs : biD .abs m [.int x] S Q = Q (.int (if x < 0 then -x else x)) S := rfl
theorem f_min : biD .min2 m [.int x, .int y] S Q = Q (.int (if y < x then y else x)) S := rfl
theorem f_max : biD .max2 m [.int x, .int y] S Q = Q (.int (if y > x then y else x)) S := rfl
theorem f_min3 {z : Int} : biD .min3 m [.int x, .int y, .int z] S Q = Q (.int (if z < (if y < x then y else x) then z else if y < x then y else x)) S := rfl
theorem f_max3 {z : Int} : biD .max3 m [.int x, .int y, .int z] S Q = Q (.int (if z > (if y > x then y else x) then z else if y > x then y else x)) S := rfl
theorem l_lst {xs : List D} : lstOf S (.lst xs) = some xs := rfl
theorem f_intI : biD .int1 m [.int x] S Q = Q (.int x) S := rfl
theorem f_intB {b : Bool} : biD .int1 m [.bl b] S Q = Q (.int (if b then 1 else 0)) S := rfl
theorem f_tupT {xs : List D} : biD .tuple1 m [.tup xs] S Q = Q (.tup xs) S := rfl
theorem f_tupL {xs : List D} : biD .tuple1 m [.lst xs] S Q = Q (.tup xs) S := by simp [biD, lstOf]
theorem f_tupR {n : Nat} : biD .tuple1 m [.ref n] S Q = ∃ xs, cellL S[n]? = some xs ∧ Q (.tup xs) S := by simp [biD, lstOf_ref]
theorem f_lstT {xs : List D} : biD .list1 m [.tup xs] S Q = newL m xs S Q := by simp [biD, seqOf]
theorem f_lstL {xs : List D} : biD .list1 m [.lst xs] S Q = newL m xs S Q := by simp [biD, seqOf, lstOf]
theorem f_allB {bs : List Bool} : biD .all1 m [.lst (bs.map D.bl)] S Q = Q (.bl (bs.all id)) S := by
  apply propext
  constructor
  · rintro ⟨xs, cs, e1, e2, q⟩
    cases e1
    rw [mapM_bl] at e2
    cases e2
    exact q
  · intro q; exact ⟨_, _, rfl, mapM_bl bs, q⟩
theorem f_anyB {bs : List Bool} : biD .any1 m [.lst (bs.map D.bl)] S Q = Q (.bl (bs.any id)) S := by
  apply propext
  constructor
  · rintro ⟨xs, cs, e1, e2, q⟩
    cases e1
    rw [mapM_bl] at e2
    cases e2
    exact q
  · intro q; exact ⟨_, _, rfl, mapM_bl bs, q⟩
theorem f_repr {d : D} : biD .repr1 m [d] S Q = ∃ p, purS S d = some p ∧ RepOk p ∧ Q (.str p.shown) S := rfl
theorem y_int {t : TyB} : isiP t (.int x) S Q = Q (.bl (isiD t (.int x))) S := rfl
theorem y_bl {t : TyB} {b : Bool} : isiP t (.bl b) S Q = Q (.bl (isiD t (.bl b))) S := rfl
theorem y_str {t : TyB} {b : Str} : isiP t (.str b) S Q = Q (.bl (isiD t (.str b))) S := rfl
theorem y_non {t : TyB} : isiP t .non S Q = Q (.bl (isiD t .non)) S := rfl
theorem y_tup {t : TyB} {b : List D} : isiP t (.tup b) S Q = Q (.bl (isiD t (.tup b))) S := rfl
theorem y_key {t : TyB} {ks : List L2.Key} : isiP t (.key ks) S Q = Q (.bl (isiD t (.key ks))) S := rfl
theorem y_ref {t : TyB} {n : Nat} : isiP t (.ref n) S Q = ∃ c, S[n]? = some c ∧ match c with
    | .dlk _ => False
    | .dkl _ => False
    | c => Q (.bl (isiC t c)) S := rfl
theorem y_lst {t : TyB} {b : List D} : isiP t (.lst b) S Q = Q (.bl (isiD t (.lst b))) S := rfl
theorem z_tup {xs ys : List D} {R : RI} : zipP S (.tup xs) (.tup ys) R = R (zipD xs ys) (fun _ => True) S := rfl
theorem z_lst {xs ys : List D} {R : RI} : zipP S (.lst xs) (.lst ys) R = R (zipD xs ys) (fun _ => True) S := by simp [zipP, tlOf, lstOf]
theorem z_tl {xs ys : List D} {R : RI} : zipP S (.tup xs) (.lst ys) R = R (zipD xs ys) (fun _ => True) S := by simp [zipP, tlOf, lstOf]
theorem z_lt {xs ys : List D} {R : RI} : zipP S (.lst xs) (.tup ys) R = R (zipD xs ys) (fun _ => True) S := by simp [zipP, tlOf, lstOf]
theorem z_enumT {xs : List D} {R : RI} : enumP S (.tup xs) R = R (enumD xs) (fun _ => True) S := rfl
theorem z_enum {xs : List D} {R : RI} : enumP S (.lst xs) R = R (enumD xs) (fun _ => True) S := by simp [enumP, lstOf]
theorem t_tup {xs : List D} {R : RI} : itD S (.tup xs) R = R xs (fun _ => True) S := rfl
theorem t_lst {xs : List D} {R : RI} : itD S (.lst xs) R = R xs (fun _ => True) S := rfl
theorem a_0 {α : Type} {a : α} {l : List α} : atI (a :: l) 0 = some a := by simp [atI, ixN]
theorem a_1 {α : Type} {a b : α} {l : List α} : atI (a :: b :: l) 1 = some b := atI_nat' (by decide) rfl
theorem a_2 {α : Type} {a b c : α} {l : List α} : atI (a :: b :: c :: l) 2 = some c := atI_nat' (by decide) rfl
theorem a_3 {α : Type} {a b c d : α} {l : List α} : atI (a :: b :: c :: d :: l) 3 = some d := atI_nat' (by decide) rfl
theorem a_4 {α : Type} {a b c d e : α} {l : List α} : atI (a :: b :: c :: d :: e :: l) 4 = some e := atI_nat' (by decide) rfl
theorem a_5 {α : Type} {a b c d e f : α} {l : List α} : atI (a :: b :: c :: d :: e :: f :: l) 5 = some f := atI_nat' (by decide) rfl
theorem a_6 {α : Type} {a b c d e f g : α} {l : List α} : atI (a :: b :: c :: d :: e :: f :: g :: l) 6 = some g := atI_nat' (by decide) rfl
theorem ex_some {α : Type} {a : α} {P : α → Prop} : (∃ v, some a = some v ∧ P v) = P a := by simp
theorem ex_env {a : D} {P : D → Prop} : (∃ v, some (some a) = some (some v) ∧ P v) = P a := by simp
theorem ex_int {i : Int} {P : Int → Prop} : (∃ j, D.int i = D.int j ∧ P j) = P i := by simp
theorem ex_bl {i : Bool} {P : Bool → Prop} : (∃ j, D.bl i = D.bl j ∧ P j) = P i := by simp
theorem ex_ref {i : Nat} {P : Nat → Prop} : (∃ j, D.ref i = D.ref j ∧ P j) = P i := by simp
theorem ex_tup {xs : List D} {P : List D → Prop} : (∃ ys, D.tup xs = D.tup ys ∧ P ys) = P xs := by simp
theorem ex_int2 {i j : Int} {P : Int → Int → Prop} : (∃ a b, D.int i = D.int a ∧ D.int j = D.int b ∧ P a b) = P i j := by simp
theorem ex_sub {n : Nat} {x : Int} {A : Nat → List D → Prop} {B : List D → Int → Nat → Prop} {P : Nat → List D → Int → Nat → Prop} : (∃ n' xs k j, D.ref n = D.ref n' ∧ D.int x = D.int k ∧ A n' xs ∧ B xs k j ∧ P n' xs k j) = ∃ xs, A n xs ∧ ∃ j, B xs x j ∧ P n xs x j := by
  apply propext
  constructor
  · rintro ⟨_, xs, _, j, e1, e2, h1, h2, h3⟩
    cases e1; cases e2
    exact ⟨xs, h1, j, h2, h3⟩
  · rintro ⟨xs, h1, j, h2, h3⟩
    exact ⟨n, xs, x, j, rfl, rfl, h1, h2, h3⟩
theorem ex_cell {L : List D} {P : List D → Prop} : (∃ xs, some (Cell.lst L) = some (Cell.lst xs) ∧ P xs) = P L := by simp
theorem ix_30 : ixN 3 0 = some 0 := rfl
theorem ix_31 : ixN 3 1 = some 1 := rfl
theorem ix_32 : ixN 3 2 = some 2 := rfl
theorem ix_n {n : Nat} {k : Int} (h0 : 0 ≤ k) (h1 : k < (n : Int)) : ixN n k = some k.toNat := by
  unfold ixN
  rw [if_pos h0, if_pos h1]
end
end DL

local macro_rules | `(tactic| simp_arith only [$xs,*]) => `(tactic| simp only [DL.e_var, DL.e_con, DL.e_glo, DL.e_bin, DL.e_neg, DL.e_cmp, DL.e_chain, DL.e_and, DL.e_or, DL.e_not, DL.e_ite, DL.e_tup, DL.e_lst, DL.e_ix, DL.e_sl, DL.e_call, DL.e_callK, DL.e_bi, DL.e_isi, DL.e_dnew, DL.e_dnewK, DL.e_dget2, DL.e_rev, DL.e_ktup, DL.e_lrg, DL.e_popE, DL.e_kix, DL.e_kget, DL.e_dlit, DL.b_cnil, DL.i_zip3, DL.e_tix, DL.e_lc, DL.es_nil, DL.es_cons, DL.o_no, DL.o_yes, DL.b_and, DL.b_or, DL.b_not, DL.b_cmp, DL.b_chain, DL.b_val, DL.bs_nil, DL.bs_cons, DL.g_name, DL.g_tup, DL.u_tup, DL.u_lst, DL.g_sub, DL.g_dsub, DL.g_ksub, DL.g_kput, DL.gs_nil, DL.gs_cons, DL.i_seq, DL.i_range1, DL.i_range2, DL.i_range3, DL.i_enum, DL.i_zip, DL.i_keys, DL.i_items, DL.i_kkeys, DL.i_kitems, DL.s_nil, DL.s_cons, DL.s_expr, DL.s_ret, DL.s_retN, DL.s_pass, DL.s_brk, DL.s_cont, DL.s_asg, DL.s_par2, DL.s_par3, DL.s_setLc, DL.s_augA, DL.s_augS, DL.s_append, DL.s_extend, DL.s_popS, DL.s_if, DL.s_while, DL.s_for, DL.o_add, DL.o_addT, DL.o_addL, DL.o_sub, DL.o_mul, DL.o_mulL, DL.o_mulT, DL.o_fdiv, DL.o_mod, DL.o_pow, DL.o_shl, DL.o_shr, DL.q_lt, DL.q_le, DL.q_gt, DL.q_ge, DL.q_eqI, DL.q_neI, DL.q_eqS, DL.q_neS, DL.q_eqB, DL.q_neB, DL.q_isN, DL.q_notN, DL.q_isB, DL.q_notB, DL.t_bl, DL.t_int, DL.x_tup, DL.x_lst, DL.x_scr, DL.x_ref, DL.x_dct, DL.x_key, DL.c_some, DL.n_f, DL.n_t, DL.f_lenT, DL.f_lenL, DL.f_lenC, DL.f_lenR, DL.f_abs, DL.f_min, DL.f_max, DL.f_min3, DL.f_max3, DL.l_lst, DL.f_intI, DL.f_intB, DL.f_tupT, DL.f_tupL, DL.f_tupR, DL.f_lstT, DL.f_lstL, DL.y_int, DL.y_bl, DL.y_str, DL.y_non, DL.y_tup, DL.y_lst, DL.y_key, DL.y_ref, DL.z_tup, DL.z_lst, DL.z_tl, DL.z_lt, DL.z_enum, DL.z_enumT, DL.isiD, DL.isiC, DL.t_tup, DL.t_lst, DL.a_0, DL.a_1, DL.a_2, DL.a_3, DL.a_4, DL.a_5, DL.a_6, DL.ex_some, DL.ex_env, DL.ex_int, DL.ex_bl, DL.ex_ref, DL.ex_tup, DL.ex_int2, DL.ex_sub, DL.ex_cell, DL.ix_30, DL.ix_31, DL.ix_32, DL.CC.d, DL.startD, DL.wipeD, DL.i2, List.map_cons, List.map_nil, List.length_cons, List.length_nil, List.replicate, List.cons_append, List.nil_append, List.getElem?_cons_zero, List.getElem?_cons_succ, List.set_cons_zero, List.set_cons_succ, Nat.zero_add, Nat.reduceAdd, Nat.reduceSub, decide_eq_true_eq, Bool.not_eq_true', decide_eq_false_iff_not, if_true, Bool.false_eq_true, if_false, ite_true, ite_false, List.getD_cons_zero, List.getD_cons_succ, List.take_succ_cons, List.take_zero, List.drop_succ_cons, List.drop_zero, eq_self, not_true_eq_false, not_false_eq_true, Bool.true_eq_false, Bool.not_true, Bool.not_false, $xs,*])
namespace DL
open PySem PySem.Spec PyProof.Rows L2
/-! ### the draws of a law -/
def takeC : List CS := [.if_ (.ccmp .Gt (.ix (.var 0) (.con (.int 0))) (.con (.int 0))) [.asg (.name 7) (.bin .Mod false (.ix (.var 0) (.con (.int 0))) (.var 1)),
    .asg (.sub (.var 0) (.con (.int 0))) (.bin .FloorDiv false (.ix (.var 0) (.con (.int 0))) (.var 1)),
    .ret (.var 7)] [],
  .asg (.name 2) (.bin .Add false (.ix (.var 0) (.con (.int 2))) (.con (.int 1))),
  .asg (.sub (.var 0) (.con (.int 2))) (.var 2),
  .asg (.name 3) (.bin .Add false (.ix (.var 0) (.con (.int 1))) (.bin .Mult false (.con (.int 15485867)) (.var 2))),
  .asg (.name 4) (.bin .Add false (.bin .Add false (.bin .Mod false (.ix (.var 0) (.con (.int 1))) (.con (.int 7907))) (.bin .Mult false (.con (.int 32452867)) (.var 2))) (.con (.int 19))),
  .asg (.name 5) (.bin .Mod false (.bin .Mult false (.var 3) (.var 4)) (.con (.int 2305843009213693951))),
  .asg (.name 6) (.bin .Add false (.bin .Add false (.bin .Mod false (.var 5) (.con (.int 1000003))) (.bin .Mult false (.con (.int 6700441)) (.var 2))) (.con (.int 7))),
  .ret (.bin .Mod false (.bin .FloorDiv false (.bin .Mod false (.bin .Mult false (.bin .Add false (.var 5) (.con (.int 11))) (.var 6)) (.con (.int 2305843009213693907))) (.con (.int 64))) (.var 1))]
def potC (g m t : Int) : Cell := .lst [.int g, .int m, .int t]
structure POk (g m t : Int) : Prop where
  g0 : 0 ≤ g
  gb : g < 10 ^ 180
  m0 : 0 ≤ m
  mb : m < 2 ^ 61
  t0 : 0 ≤ t
  tb : t ≤ 1000000000
def spTake (ds : List D) (S : DStore) (Q : QE) : Prop := ∃ n many g m t, ds = [.ref n, .int many] ∧ S[n]? = some (potC g m t) ∧ POk g m t ∧ t < 1000000000 ∧ 0 < many ∧ many < 2 ^ 60 ∧
  ∀ v g' t', 0 ≤ v → v < many → POk g' m t' → t ≤ t' → t' ≤ t + 1 → Q (.int v) (S.set n (potC g' m t'))
theorem spTake_len : ∀ ds S Q, spTake ds S Q → ds.length = 2 := by
  rintro ds S Q ⟨n, many, g, m, t, rfl, _⟩; rfl
theorem set_get {S : DStore} {n : Nat} {c d : Cell} (h : S[n]? = some c) : (S.set n d)[n]? = some d := by
  rw [List.getElem?_set_self (List.getElem?_eq_some_iff.mp h).1]
theorem if_i {c : Prop} [Decidable c] {A B : Prop} (h1 : c → A) (h2 : ¬ c → B) : if c then A else B := by split <;> simp_all
theorem fmod_pos {a b : Int} (h : 0 < b) : 0 ≤ a.fmod b ∧ a.fmod b < b := ⟨Int.fmod_nonneg_of_pos a h, Int.fmod_lt_of_pos a h⟩
theorem take_ok {G : Fns} : ∀ ds S Q, spTake ds S Q → wpSs G takeC (startD 8 ds) S { nx := fun _ S' => Q .non S', rt := Q } := by
  rintro ds S Q ⟨n, many, g, m, t, rfl, hS, ok, htb, hm0, hmb, hQ⟩
  have hS' : S[n]? = some (.lst [.int g, .int m, .int t]) := hS
  have hmk : ∀ c : Cell, (S.set n c)[n]? = some c := fun c => set_get hS
  unfold takeC
  simp_arith only [hS', hmk]
  have h64 : (2305843009213693951 : Int) < 2 ^ 64 := by decide
  have m0 := ok.m0
  have mb := ok.mb
  have t0 := ok.t0
  have g0 := ok.g0
  split
  · rename_i hg
    have hd := fmod_pos (a := g) hm0
    refine ⟨by omega, div_small (by omega) ?_, hQ _ _ t hd.1 hd.2 ⟨?_, ?_, m0, mb, t0, ok.tb⟩ (Int.le_refl _) (by omega)⟩
    · have : many.natAbs < 2 ^ 60 := by omega
      exact Nat.lt_of_lt_of_le this (Nat.pow_le_pow_right (by decide) (by decide))
    · rw [Int.fdiv_eq_ediv_of_nonneg _ (by omega)]; exact Int.ediv_nonneg g0 (by omega)
    · rw [Int.fdiv_eq_ediv_of_nonneg _ (by omega)]
      exact Int.lt_of_le_of_lt (Int.ediv_le_self _ g0) ok.gb
  · refine ⟨mul_small_left (by decide) (by decide), by decide, mul_small_left (by decide) (by decide), ?_⟩
    have hd := fmod_pos (a := m) (b := 7907) (by decide)
    refine ⟨mul_small_left (by omega) (by omega), by decide, by decide, mul_small_left (by decide) (by decide), ?_⟩
    generalize (m + 15485867 * (t + 1)) * (m.fmod 7907 + 32452867 * (t + 1) + 19) = A
    have hA := fmod_pos (a := A) (b := 2305843009213693951) (by decide)
    refine ⟨mul_small_left (by omega) (by omega), by decide, div_small (by decide) ?_, by omega, ?_⟩
    · exact Nat.lt_of_lt_of_le (show (64 : Int).natAbs < 2 ^ 7 by decide) (Nat.pow_le_pow_right (by decide) (by decide))
    · have hv := fmod_pos (a := (((A.fmod 2305843009213693951 + 11) * ((A.fmod 2305843009213693951).fmod 1000003 + 6700441 * (t + 1) + 7)).fmod 2305843009213693907).fdiv 64) hm0
      exact hQ _ g (t + 1) hv.1 hv.2 ⟨g0, ok.gb, m0, mb, by omega, by omega⟩ (by omega) (Int.le_refl _)
/-- what a draw is: one of some -/
def pickC (j : Nat) : List CS := [.ret (.ix (.var 1) (.call j [(.var 0), (.bi .len false [(.var 1)])]))]
def spPick (ds : List D) (S : DStore) (Q : QE) : Prop := ∃ n d xs g m t, ds = [.ref n, d] ∧ (d = .lst xs ∨ d = .tup xs) ∧ S[n]? = some (potC g m t) ∧ POk g m t ∧ t < 1000000000 ∧ xs ≠ [] ∧ xs.length < 2 ^ 50 ∧
  ∀ y g' t', y ∈ xs → POk g' m t' → t ≤ t' → t' ≤ t + 1 → Q y (S.set n (potC g' m t'))
theorem spPick_len : ∀ ds S Q, spPick ds S Q → ds.length = 2 := by
  rintro ds S Q ⟨n, d, xs, g, m, t, rfl, _⟩; rfl
theorem pick_ok {G : Fns} {j : Nat} (hG : G.fn j = spTake) : ∀ ds S Q, spPick ds S Q → wpSs G (pickC j) (startD 2 ds) S { nx := fun _ S' => Q .non S', rt := Q } := by
  rintro ds S Q ⟨n, d, xs, g, m, t, rfl, hd, hS, ok, htb, hx, hxl, hQ⟩
  have hl : 0 < xs.length := List.length_pos_iff.mpr hx
  unfold pickC
  have fin : ∀ v g' t', 0 ≤ v → v < (xs.length : Int) → POk g' m t' → t ≤ t' → t' ≤ t + 1 → ∃ y, atI xs v = some y ∧ Q y (S.set n (potC g' m t')) := by
    intro v g' t' h0 h1 ok' h2 h3
    have hi : v.toNat < xs.length := by omega
    exact ⟨xs[v.toNat], atI_nat' h0 (List.getElem?_eq_getElem hi), hQ _ _ _ (List.getElem_mem hi) ok' h2 h3⟩
  rcases hd with rfl | rfl
  · simp_arith only [hG]
    refine ⟨n, _, g, m, t, rfl, hS, ok, htb, by omega, by omega, fun v g' t' h0 h1 ok' h2 h3 => ?_⟩
    simp_arith only []
    exact fin v g' t' h0 h1 ok' h2 h3
  · simp_arith only [hG]
    refine ⟨n, _, g, m, t, rfl, hS, ok, htb, by omega, by omega, fun v g' t' h0 h1 ok' h2 h3 => ?_⟩
    simp_arith only []
    exact fin v g' t' h0 h1 ok' h2 h3
/-- a draw where nothing else in the store is asked for -/
theorem takeA {n : Nat} {many g m t : Int} {S : DStore} {Q : QE} (hS : S[n]? = some (potC g m t)) (ok : POk g m t) (ht : t < 1000000000) (h0 : 0 < many) (hb : many < 2 ^ 60)
    (h : ∀ v g' t' S', 0 ≤ v → v < many → POk g' m t' → t' ≤ t + 1 → S'[n]? = some (potC g' m t') → Q (.int v) S') : spTake [.ref n, .int many] S Q :=
  ⟨n, many, g, m, t, rfl, hS, ok, ht, h0, hb, fun v g' t' a b c _ d => h v g' t' _ a b c d (set_get hS)⟩
theorem pickA {n : Nat} {xs : List D} {g m t : Int} {S : DStore} {Q : QE} (hS : S[n]? = some (potC g m t)) (ok : POk g m t) (ht : t < 1000000000)
    (h : ∀ y g' t' S', y ∈ xs → POk g' m t' → t' ≤ t + 1 → S'[n]? = some (potC g' m t') → Q y S') (hx : xs ≠ [] := by simp) (hl : xs.length ≤ 1000000 := by simp) : spPick [.ref n, .lst xs] S Q :=
  ⟨n, _, xs, g, m, t, rfl, .inl rfl, hS, ok, ht, hx, Nat.lt_of_le_of_lt hl (by decide), fun y g' t' a b _ c => h y g' t' _ a b c (set_get hS)⟩
theorem takeF {n : Nat} {many g m t : Int} {S : DStore} {Q : QE} (hS : S[n]? = some (potC g m t)) (ok : POk g m t) (ht : t < 1000000000) (h0 : 0 < many) (hb : many < 2 ^ 60)
    (h : ∀ v g' t' S', 0 ≤ v → v < many → POk g' m t' → t' ≤ t + 1 → S'[n]? = some (potC g' m t') → (∀ j, j ≠ n → S'[j]? = S[j]?) → Q (.int v) S') : spTake [.ref n, .int many] S Q :=
  ⟨n, many, g, m, t, rfl, hS, ok, ht, h0, hb, fun v g' t' a b c _ d => h v g' t' _ a b c d (set_get hS) fun j hj => List.getElem?_set_ne (fun z => hj z.symm)⟩
theorem pickF {n : Nat} {xs : List D} {g m t : Int} {S : DStore} {Q : QE} (hS : S[n]? = some (potC g m t)) (ok : POk g m t) (ht : t < 1000000000)
    (h : ∀ y g' t' S', y ∈ xs → POk g' m t' → t' ≤ t + 1 → S'[n]? = some (potC g' m t') → (∀ j, j ≠ n → S'[j]? = S[j]?) → Q y S') (hx : xs ≠ [] := by simp) (hl : xs.length ≤ 1000000 := by simp) : spPick [.ref n, .lst xs] S Q :=
  ⟨n, _, xs, g, m, t, rfl, .inl rfl, hS, ok, ht, hx, Nat.lt_of_le_of_lt hl (by decide), fun y g' t' a b _ c => h y g' t' _ a b c (set_get hS) fun j hj => List.getElem?_set_ne (fun z => hj z.symm)⟩
theorem repr4 {S : DStore} {m : Bool} {d : D} {p : PyData} {Q : QE} (e : purS S d = some p) (h : okP p = true) (q : Q (.str p.shown) S) (hs : (szP p).ble 16000000 = true := by rfl) (hd : p.depth.ble 50 = true := by rfl) : biD .repr1 m [d] S Q :=
  ⟨p, e, rep_ok2 h (Nat.le_of_ble_eq_true hs) (Nat.le_of_ble_eq_true hd), q⟩
theorem repr2 {S : DStore} {m : Bool} {d : D} {p : PyData} {c : Nat} {Q : QE} (e : purS S d = some p) (h : costP p = some c) (hc : c ≤ 16000000) (hd : p.depth ≤ 50) (q : Q (.str p.shown) S) : biD .repr1 m [d] S Q := ⟨p, e, rep_ok h hc hd, q⟩
def handC : List CS := [.asg (.name 2) (.ite (.ccmp .Lt (.var 1) (.bi .len false [(.var 0)])) (.ix (.var 0) (.var 1)) (.con (.int 0))),
  .asg (.name 3) (.ite (.ccmp .GtE (.bi .abs false [(.var 2)]) (.bin .Pow false (.con (.int 10)) (.con (.int 18)))) (.bin .Mod false (.bi .abs false [(.var 2)]) (.bin .Mult false (.bin .Mult false (.bin .Pow false (.con (.int 10)) (.con (.int 60))) (.bin .Pow false (.con (.int 10)) (.con (.int 60)))) (.bin .Pow false (.con (.int 10)) (.con (.int 60))))) (.con (.int 0))),
  .ret (.lst true [(.var 3), (.bin .Mod false (.bin .Add false (.bin .Add false (.bin .Mult false (.bin .Mod false (.var 2) (.con (.int 2305843009213693951))) (.con (.int 1000033))) (.bin .Mult false (.con (.int 6857)) (.var 1))) (.con (.int 41))) (.con (.int 2305843009213693921))), (.con (.int 0))])]
def spHand (ds : List D) (S : DStore) (Q : QE) : Prop := ∃ (ns : List Int) (k : Int), ds = [.scr (ns.map D.int), .int k] ∧ 0 ≤ k ∧ k ≤ 1000 ∧ ∀ g m, POk g m 0 → Q (.ref S.length) (S ++ [potC g m 0])
theorem handA {ns : List Int} {k : Int} {S : DStore} {Q : QE} (h0 : 0 ≤ k) (h1 : k ≤ 1000) (h : ∀ g m n S', POk g m 0 → S'[n]? = some (potC g m 0) → Q (.ref n) S') : spHand [.scr (ns.map D.int), .int k] S Q :=
  ⟨ns, k, rfl, h0, h1, fun g m ok => h g m _ _ ok (by simp)⟩
theorem spHand_len : ∀ ds S Q, spHand ds S Q → ds.length = 2 := by
  rintro ds S Q ⟨ns, k, rfl, _⟩; rfl
theorem hand_ok {G : Fns} : ∀ ds S Q, spHand ds S Q → wpSs G handC (startD 4 ds) S { nx := fun _ S' => Q .non S', rt := Q } := by
  rintro ds S Q ⟨ns, k, rfl, hk0, hk, hQ⟩
  unfold handC
  simp_arith only [List.length_map]
  have e60 : ((10 : Int) ^ (60 : Int).toNat) = 10 ^ 60 := rfl
  have p1 : CPow 10 18 := pow_ok (by decide) (by decide) (by decide)
  have p2 : CPow 10 60 := pow_ok (by decide) (by decide) (by decide)
  have m1 : MulOk ((10 : Int) ^ (60 : Int).toNat) ((10 : Int) ^ (60 : Int).toNat) := .inr (wide_mul (a := 200) (b := 200) (by decide) (by decide) (by decide) (by decide) (by decide))
  have m2 : MulOk ((10 : Int) ^ (60 : Int).toNat * (10 : Int) ^ (60 : Int).toNat) ((10 : Int) ^ (60 : Int).toNat) := .inr (wide_mul (a := 400) (b := 200) (by decide) (by decide) (by decide) (by decide) (by decide))
  have n1 : ((10 : Int) ^ (60 : Int).toNat * (10 : Int) ^ (60 : Int).toNat * (10 : Int) ^ (60 : Int).toNat) ≠ 0 := by decide
  have b1 : ((10 : Int) ^ (60 : Int).toNat * (10 : Int) ^ (60 : Int).toNat * (10 : Int) ^ (60 : Int).toNat) = 10 ^ 180 := by decide
  have fin : ∀ x y : Int, POk (x.fmod ((10 : Int) ^ (60 : Int).toNat * (10 : Int) ^ (60 : Int).toNat * (10 : Int) ^ (60 : Int).toNat)) (y.fmod 2305843009213693921) 0 := fun x y => by
    have h1 := fmod_pos (a := x) (b := 10 ^ 180) (by decide)
    have h2 := fmod_pos (a := y) (b := 2305843009213693921) (by decide)
    rw [b1]
    exact ⟨h1.1, h1.2, h2.1, Int.lt_trans h2.2 (by decide), Int.le_refl _, by decide⟩
  have fin0 : ∀ y : Int, POk 0 (y.fmod 2305843009213693921) 0 := fun y => by
    have h2 := fmod_pos (a := y) (b := 2305843009213693921) (by decide)
    exact ⟨Int.le_refl _, by decide, h2.1, Int.lt_trans h2.2 (by decide), Int.le_refl _, by decide⟩
  refine if_i (fun hlt => ?_) fun _ => ?_
  · have hi : k.toNat < ns.length := by omega
    refine ⟨.int ns[k.toNat], atI_nat' hk0 (by rw [List.getElem?_map, List.getElem?_eq_getElem hi]; rfl), ?_⟩
    simp_arith only []
    refine ⟨p1, if_i (fun _ => ?_) fun _ => ?_⟩
    · exact ⟨p2, p2, m1, p2, m2, n1, by decide, mul_small_right (by decide) (by decide), mul_small_left (by decide) (by decide), by decide, hQ _ _ (fin _ _)⟩
    · exact ⟨by decide, mul_small_right (by decide) (by decide), mul_small_left (by decide) (by decide), by decide, hQ _ _ (fin0 _)⟩
  · refine ⟨p1, if_i (fun _ => ?_) fun _ => ?_⟩
    · exact ⟨p2, p2, m1, p2, m2, n1, by decide, mul_small_right (by decide) (by decide), mul_small_left (by decide) (by decide), by decide, hQ _ _ (fin _ _)⟩
    · exact ⟨by decide, mul_small_right (by decide) (by decide), mul_small_left (by decide) (by decide), by decide, hQ _ _ (fin0 _)⟩
end DL

namespace DL
open PySem PySem.Spec PyProof.Rows L2
theorem pow_lt_9000 {x : Nat} {k : Nat} (h : x < 2 ^ k) (hk : k ≤ 9000) : x < 2 ^ 9000 := Nat.lt_of_lt_of_le h (Nat.pow_le_pow_right (by decide) hk)
theorem bits_one : Builtin.Int.intBits 1 = 1 := by decide +kernel
theorem cpow1 {f : Int} (h0 : 0 ≤ f) (h1 : f ≤ 1000000) : CShl 1 f := ⟨h0, by rw [bits_one]; omega⟩
def gI (gs : List Int) (i : Int) : Int := gs.getD i.toNat 0
theorem at_g {gs : List Int} {i : Int} (h0 : 0 ≤ i) (h1 : i < gs.length) : atI (gs.map D.int) i = some (.int (gI gs i)) := by
  refine atI_nat' h0 ?_
  have : i.toNat < gs.length := by omega
  rw [List.getElem?_map, List.getElem?_eq_getElem this]
  simp [gI, List.getD_eq_getElem?_getD, List.getElem?_eq_getElem this]
theorem at_m1 {gs : List Int} (h : 0 < gs.length) : atI (gs.map D.int) (-1) = some (.int (gI gs (gs.length - 1))) := by
  have := at_g (gs := gs) (i := gs.length - 1) (by omega) (by omega)
  unfold atI at this ⊢
  unfold ixN at this ⊢
  rw [List.length_map] at this ⊢
  rw [if_pos (by omega), if_pos (by omega)] at this
  rw [if_neg (by omega), if_pos (by omega)]
  rw [← this]
  congr 1
theorem gI_bd {gs : List Int} {B : Int} (hB : 0 ≤ B) (h : ∀ x ∈ gs, -B ≤ x ∧ x ≤ B) (i : Int) : -B ≤ gI gs i ∧ gI gs i ≤ B := by
  unfold gI
  rw [List.getD_eq_getElem?_getD]
  cases e : gs[i.toNat]? with
  | none => simp; omega
  | some x => exact h x (List.mem_of_getElem? e)
theorem o_addRL {m : Bool} {n : Nat} {xs b : List D} {S : DStore} {Q : QE} (h : S[n]? = some (.lst xs)) (hl : xs.length + b.length ≤ sizeLine) (hQ : newL m (xs ++ b) S Q) : binD .Add m (.ref n) (.lst b) S Q :=
  ⟨xs, b, by simp [lstOf, h], rfl, hl, hQ⟩
/-! ### pots: the draws' state, its turns counted -/
def Pot (n : Nat) (T : Int) (S : DStore) : Prop := ∃ g m t, S[n]? = some (potC g m t) ∧ POk g m t ∧ t ≤ T
/-- all other things in the store stay -/
structure Fr (n : Nat) (S S' : DStore) : Prop where
  len : S.length ≤ S'.length
  keep : ∀ j, j ≠ n → j < S.length → S'[j]? = S[j]?
theorem Fr.refl {n : Nat} {S : DStore} : Fr n S S := ⟨Nat.le_refl _, fun _ _ _ => rfl⟩
theorem Fr.trans {n : Nat} {S S1 S2 : DStore} (a : Fr n S S1) (b : Fr n S1 S2) : Fr n S S2 :=
  ⟨Nat.le_trans a.len b.len, fun j h1 h2 => (b.keep j h1 (Nat.lt_of_lt_of_le h2 a.len)).trans (a.keep j h1 h2)⟩
theorem Fr.app {n : Nat} {S : DStore} {cs : List Cell} : Fr n S (S ++ cs) := ⟨by simp, fun j _ h => List.getElem?_append_left h⟩
theorem Fr.set {n i : Nat} {S S' : DStore} {c : Cell} (h : Fr n S S') (hi : S.length ≤ i) : Fr n S (S'.set i c) :=
  ⟨by simpa using h.len, fun j h1 h2 => by rw [List.getElem?_set_ne (by omega)]; exact h.keep j h1 h2⟩
theorem Fr.get {n i : Nat} {S S' : DStore} {c : Cell} (h : Fr n S S') (hi : i ≠ n) (e : S[i]? = some c) : S'[i]? = some c :=
  (h.keep i hi (List.getElem?_eq_some_iff.mp e).1).trans e
/-- all things stay -/
def Kp (S S' : DStore) : Prop := ∀ (j : Nat) (c : Cell), S[j]? = some c → S'[j]? = some c
theorem Kp.len {S S' : DStore} (h : Kp S S') : S.length ≤ S'.length := by
  rcases Nat.lt_or_ge S'.length S.length with hl | hl
  · have := h S'.length S[S'.length] (List.getElem?_eq_getElem hl)
    have := (List.getElem?_eq_some_iff.mp this).1
    omega
  · exact hl
theorem Kp.fr {n : Nat} {S S' : DStore} (h : Kp S S') : Fr n S S' := ⟨h.len, fun j _ hj => by
  rw [List.getElem?_eq_getElem hj]; exact h j _ (List.getElem?_eq_getElem hj)⟩
theorem Pot.keep {n : Nat} {T : Int} {S S' : DStore} (h : Pot n T S) (k : Kp S S') : Pot n T S' := let ⟨g, m, t, a, b, c⟩ := h; ⟨g, m, t, k _ _ a, b, c⟩
theorem Pot.mono {n : Nat} {T T' : Int} {S : DStore} (h : Pot n T S) (hT : T ≤ T') : Pot n T' S := let ⟨g, m, t, a, b, c⟩ := h; ⟨g, m, t, a, b, Int.le_trans c hT⟩
theorem Pot.lt {n : Nat} {T : Int} {S : DStore} (h : Pot n T S) : n < S.length := let ⟨_, _, _, a, _⟩ := h; (List.getElem?_eq_some_iff.mp a).1
theorem Pot.app {n : Nat} {T : Int} {S : DStore} {cs : List Cell} (h : Pot n T S) : Pot n T (S ++ cs) := let ⟨g, m, t, a, b, d⟩ := h; ⟨g, m, t, by rw [List.getElem?_append_left (List.getElem?_eq_some_iff.mp a).1]; exact a, b, d⟩
theorem Pot.set {n q : Nat} {T : Int} {S : DStore} {c : Cell} (h : Pot n T S) (hq : q ≠ n) : Pot n T (S.set q c) := let ⟨g, m, t, a, b, d⟩ := h; ⟨g, m, t, by rw [List.getElem?_set_ne hq]; exact a, b, d⟩
theorem takeP {n : Nat} {many T : Int} {S : DStore} {Q : QE} (hP : Pot n T S) (ht : T < 1000000000) (h0 : 0 < many) (hb : many < 2 ^ 60)
    (h : ∀ v S', 0 ≤ v → v < many → Pot n (T + 1) S' → Fr n S S' → S'.length = S.length → Q (.int v) S') : spTake [.ref n, .int many] S Q := by
  obtain ⟨g, m, t0, hS, ok, hl⟩ := hP
  exact ⟨n, many, g, m, t0, rfl, hS, ok, by omega, h0, hb, fun v g' t' a b c _ d => h v _ a b ⟨g', m, t', set_get hS, c, by omega⟩ ⟨by simp, fun j hj _ => List.getElem?_set_ne (fun z => hj z.symm)⟩ (by simp)⟩
theorem pickP {n : Nat} {xs : List D} {T : Int} {S : DStore} {Q : QE} (hP : Pot n T S) (ht : T < 1000000000)
    (h : ∀ y S', y ∈ xs → Pot n (T + 1) S' → Fr n S S' → S'.length = S.length → Q y S') (hx : xs ≠ [] := by simp) (hl : xs.length ≤ 1000000 := by simp) : spPick [.ref n, .lst xs] S Q := by
  obtain ⟨g, m, t0, hS, ok, hle⟩ := hP
  exact ⟨n, _, xs, g, m, t0, rfl, .inl rfl, hS, ok, by omega, hx, Nat.lt_of_le_of_lt hl (by decide), fun y g' t' a b _ c => h y _ a ⟨g', m, t', set_get hS, b, by omega⟩ ⟨by simp, fun j hj _ => List.getElem?_set_ne (fun z => hj z.symm)⟩ (by simp)⟩
theorem pickTP {n : Nat} {xs : List D} {T : Int} {S : DStore} {Q : QE} (hP : Pot n T S) (ht : T < 1000000000)
    (h : ∀ y S', y ∈ xs → Pot n (T + 1) S' → Fr n S S' → S'.length = S.length → Q y S') (hx : xs ≠ [] := by simp) (hl : xs.length ≤ 1000000 := by simp) : spPick [.ref n, .tup xs] S Q := by
  obtain ⟨g, m, t0, hS, ok, hle⟩ := hP
  exact ⟨n, _, xs, g, m, t0, rfl, .inr rfl, hS, ok, by omega, hx, Nat.lt_of_le_of_lt hl (by decide), fun y g' t' a b _ c => h y _ a ⟨g', m, t', set_get hS, b, by omega⟩ ⟨by simp, fun j hj _ => List.getElem?_set_ne (fun z => hj z.symm)⟩ (by simp)⟩
/-- whole numbers from lo to hi -/
def allI (lo hi : Int) : List D → Prop
  | [] => True
  | .int k :: r => (lo ≤ k ∧ k ≤ hi) ∧ allI lo hi r
  | _ => False
theorem allI_mem {lo hi : Int} : ∀ {xs : List D}, allI lo hi xs → ∀ y ∈ xs, ∃ k : Int, y = .int k ∧ lo ≤ k ∧ k ≤ hi
  | [], _, y, hy => by cases hy
  | .int k :: r, h, y, hy => by
    rcases List.mem_cons.mp hy with rfl | hy
    · exact ⟨k, rfl, h.1.1, h.1.2⟩
    · exact allI_mem h.2 y hy
theorem pickI {lo hi : Int} {n : Nat} {xs : List D} {T : Int} {S : DStore} {Q : QE} (hP : Pot n T S) (ht : T < 1000000000) (ha : allI lo hi xs)
    (h : ∀ v S', lo ≤ v → v ≤ hi → Pot n (T + 1) S' → Fr n S S' → S'.length = S.length → Q (.int v) S') (hx : xs ≠ [] := by simp) (hl : xs.length ≤ 1000000 := by simp) : spPick [.ref n, .lst xs] S Q :=
  pickP hP ht (fun y S' hy hP' hF hL => by
    obtain ⟨k, rfl, h0, h1⟩ := allI_mem ha y hy
    exact h k S' h0 h1 hP' hF hL) hx hl
theorem handP {ns : List Int} {k : Int} {S : DStore} {Q : QE} (h0 : 0 ≤ k) (h1 : k ≤ 1000) (h : ∀ n S', Pot n 0 S' → Fr n S S' → S'.length = n + 1 → Q (.ref n) S') : spHand [.scr (ns.map D.int), .int k] S Q :=
  ⟨ns, k, rfl, h0, h1, fun g m ok => h _ _ ⟨g, m, 0, by simp, ok, Int.le_refl _⟩ Fr.app (by simp)⟩
theorem len_le {n : Nat} (h : n ≤ 1000000) : n ≤ sizeLine := Nat.le_trans h (by decide)
theorem len_lt {n : Nat} (h : n < 1000000) : n < sizeLine := Nat.lt_of_lt_of_le h (by decide)
theorem div_om {j : Int} (h0 : j ≠ 0) (h1 : -4611686018427387904 < j) (h2 : j < 4611686018427387904) : DivOk j := div_small h0 (pow_lt_9000 (k := 62) (by omega) (by decide))
theorem fdiv_e {a b : Int} (h : 0 ≤ b) : a.fdiv b = a / b := Int.fdiv_eq_ediv_of_nonneg _ h
theorem fmod_e {a b : Int} (h : 0 ≤ b) : a.fmod b = a % b := Int.fmod_eq_emod_of_nonneg _ h
theorem cut_to {xs : List D} {k : Nat} : cutD xs none (some (k : Int)) = xs.take k := by
  unfold cutD
  rw [HT.sIx_none, HT.sIx_nat, List.drop_zero, Nat.sub_zero]
  rcases Nat.le_total k xs.length with h | h
  · rw [Nat.min_eq_left h]
  · rw [Nat.min_eq_right h, List.take_length, List.take_of_length_le h]
theorem cut_from {xs : List D} {k : Nat} : cutD xs (some (k : Int)) none = xs.drop k := by
  unfold cutD
  rw [HT.sIx_none, HT.sIx_nat]
  rcases Nat.le_total k xs.length with h | h
  · rw [Nat.min_eq_left h, List.take_of_length_le (by simp)]
  · rw [Nat.min_eq_right h, List.drop_length, List.drop_of_length_le h]; simp
theorem shl_ok {x f : Int} {k : Nat} (h0 : 0 ≤ f) (hx : x.natAbs < 2 ^ k) (hk : 0 < k) (hf : (k : Int) + f ≤ 100000) : CShl x f := by
  refine ⟨h0, ?_⟩
  have hb : Builtin.Int.intBits x ≤ x.natAbs.log2 + 1 := by
    unfold Builtin.Int.intBits
    split <;> omega
  have hl := PySem.Flt.log2_lt_of hk hx
  omega
/-! ### split a body -/
theorem ss_take {G : Fns} : ∀ (k : Nat) (l : List CS) (ρ : DEnv) (S : DStore) (K : DEnds), wpSs G l ρ S K = wpSs G (l.take k) ρ S { K with nx := fun ρ' S' => wpSs G (l.drop k) ρ' S' K }
  | 0, l, ρ, S, K => by simp only [List.take_zero, List.drop_zero, wpSs]
  | k + 1, [], ρ, S, K => by simp only [List.take_nil, List.drop_nil, wpSs]
  | k + 1, s :: l, ρ, S, K => by
    simp only [List.take_succ_cons, List.drop_succ_cons, wpSs]
    congr 2
    funext ρ' S'
    exact ss_take k l ρ' S' K
theorem ss_split {G : Fns} (k : Nat) {l : List CS} {ρ : DEnv} {S : DStore} {nx : DEnv → DStore → Prop} {rt : QE} {bk ct : DEnv → DStore → Prop} (P : DEnv → DStore → Prop)
    (h1 : ∀ N : DEnv → DStore → Prop, (∀ ρ' S', P ρ' S' → N ρ' S') → wpSs G (l.take k) ρ S ⟨N, rt, bk, ct⟩) (h2 : ∀ ρ' S', P ρ' S' → wpSs G (l.drop k) ρ' S' ⟨nx, rt, bk, ct⟩) : wpSs G l ρ S ⟨nx, rt, bk, ct⟩ := by
  rw [ss_take k]
  exact h1 _ h2
theorem Kp.trans {S S' S'' : DStore} (a : Kp S S') (b : Kp S' S'') : Kp S S'' := fun j c h => b j c (a j c h)
theorem kp_set {S S' : DStore} {n : Nat} {c : Cell} (h : Kp S S') (hn : S.length ≤ n) : Kp S (S'.set n c) := fun j d hj => by
  have := (List.getElem?_eq_some_iff.mp hj).1
  rw [List.getElem?_set_ne (by omega)]; exact h j d hj
theorem kp_refl {S : DStore} : Kp S S := fun _ _ h => h
theorem kp_app {S : DStore} {cs : List Cell} : Kp S (S ++ cs) := fun j c hj => by rw [List.getElem?_append_left (List.getElem?_eq_some_iff.mp hj).1]; exact hj
theorem at_map {α : Type} {l : List α} {mk : α → D} {k : Nat} {x : α} (h : l[k]? = some x) : atI (l.map mk) (k : Int) = some (mk x) :=
  atI_nat' (by omega) (by rw [Int.toNat_natCast, List.getElem?_map, h]; rfl)
theorem s_nilA {G : Fns} {ρ : DEnv} {S : DStore} {K : DEnds} : wpSs G [] ρ S K = K.nx ρ S := by simp only [wpSs]
theorem eq_same {S : DStore} {x : D} {p : PyData} {QB : Bool → Prop} (hx : ∀ i, x ≠ .int i) (hb : ∀ i, x ≠ .bl i) (hst : ∀ i, x ≠ .str i) (e : purS S x = some p) (sh : SeqAt.shaped p = true) (q : QB true) : cmpD .Eq S x x QB := by
  show eqD S x x QB
  unfold eqD
  split
  · exact absurd rfl (hx _)
  · exact absurd rfl (hb _)
  · exact absurd rfl (hst _)
  · have lay : p.canLay0 = true := by
      unfold SeqAt.shaped at sh
      exact (Bool.and_eq_true_iff.mp sh).1
    exact ⟨p, p, e, e, sh, sh, by rw [SeqAt.eqv_refl p lay]; exact q⟩
theorem ne_same {S : DStore} {x : D} {p : PyData} {QB : Bool → Prop} (hx : ∀ i, x ≠ .int i) (hb : ∀ i, x ≠ .bl i) (hst : ∀ i, x ≠ .str i) (e : purS S x = some p) (sh : SeqAt.shaped p = true) (q : QB false) : cmpD .NotEq S x x QB :=
  eq_same (QB := fun b => QB (!b)) hx hb hst e sh q
def gW (I : DStore → Prop) (turn : D → DStore → (Option D → DStore → Prop) → Prop) (Q : List D → DStore → Prop) (len : Nat) : List D → Nat → List D → DStore → Prop
  | [], i, acc, S => (I S ∧ acc.length ≤ i ∧ i ≤ len) ∧ Q acc S
  | x :: xs, i, acc, S => (I S ∧ acc.length ≤ i ∧ i ≤ len) ∧ turn x S fun o S' => match o with
    | some y => gW I turn Q len xs (i + 1) (acc ++ [y]) S'
    | none => gW I turn Q len xs (i + 1) acc S'
theorem gW_w {I turn Q len} : ∀ {xs i acc S}, gW I turn Q len xs i acc S → I S ∧ acc.length ≤ i ∧ i ≤ len
  | [], _, _, _, h => h.1
  | _ :: _, _, _, _, h => h.1
theorem gather_run {items : List D} {I : DStore → Prop} {S : DStore} {turn : D → DStore → (Option D → DStore → Prop) → Prop} {Q : List D → DStore → Prop} (hl : items.length ≤ sizeLine) (h : gW I turn Q items.length items 0 [] S) : wpGather items I S turn Q := by
  refine ⟨fun i acc S => gW I turn Q items.length (items.drop i) i acc S, h, fun i acc S h => gW_w h, hl, fun i x acc S h e => ?_, fun acc S h => ?_⟩
  · have hi := (List.getElem?_eq_some_iff.mp e).1
    replace h : gW I turn Q items.length (items.drop i) i acc S := h
    rw [List.drop_eq_getElem_cons hi] at h
    have ex : items[i] = x := (List.getElem?_eq_some_iff.mp e).2
    rw [ex] at h
    exact h.2
  · replace h : gW I turn Q items.length (items.drop items.length) items.length acc S := h
    rw [List.drop_length] at h
    exact h.2
def wW (I : DStore → Prop) (turn : D → DEnv → DStore → (DEnv → DStore → Prop) → Prop) (Q : DEnv → DStore → Prop) : List D → DEnv → DStore → Prop
  | [], ρ, S => I S ∧ Q ρ S
  | x :: xs, ρ, S => I S ∧ turn x ρ S fun ρ' S' => wW I turn Q xs ρ' S'
theorem wW_w {I turn Q} : ∀ {xs ρ S}, wW I turn Q xs ρ S → I S
  | [], _, _, h => h.1
  | _ :: _, _, _, h => h.1
theorem walk_run {items : List D} {I : DStore → Prop} {ρ : DEnv} {S : DStore} {turn : D → DEnv → DStore → (DEnv → DStore → Prop) → Prop} {Q : DEnv → DStore → Prop} (h : wW I turn Q items ρ S) : wpWalk items I ρ S turn Q := by
  refine ⟨fun i ρ S => wW I turn Q (items.drop i) ρ S, h, fun i ρ S h => wW_w h, fun i x ρ S h e => ?_, fun ρ S h => ?_⟩
  · have hi := (List.getElem?_eq_some_iff.mp e).1
    replace h : wW I turn Q (items.drop i) ρ S := h
    rw [List.drop_eq_getElem_cons hi] at h
    have ex : items[i] = x := (List.getElem?_eq_some_iff.mp e).2
    rw [ex] at h
    exact h.2
  · replace h : wW I turn Q (items.drop items.length) ρ S := h
    rw [List.drop_length] at h
    exact h.2
section
variable {κ : Type} [DecidableEq κ]
theorem valD_nil (k : κ) : valD [] k = none := rfl
theorem valD_mem {kvs : List (κ × D)} {k : κ} {d : D} (h : valD kvs k = some d) : (k, d) ∈ kvs := by
  unfold valD at h
  obtain ⟨p, h1, h2⟩ := Option.map_eq_some_iff.mp h
  have h3 := List.find?_some h1
  have h4 := List.mem_of_find?_eq_some h1
  have : p = (k, d) := by
    cases p; simp only [decide_eq_true_eq] at h3; simp only at h2; rw [h3, h2]
  rw [← this]; exact h4
theorem valD_cons {p : κ × D} {kvs : List (κ × D)} {k : κ} : valD (p :: kvs) k = if p.1 = k then some p.2 else valD kvs k := by
  unfold valD
  rw [List.find?_cons]
  by_cases h : p.1 = k
  · simp [h]
  · simp [h]
theorem any_val {kvs : List (κ × D)} {k : κ} : (kvs.any fun kv => decide (kv.1 = k)) = (valD kvs k).isSome := by
  induction kvs with
  | nil => rfl
  | cons p r ih =>
    rw [List.any_cons, valD_cons, ih]
    by_cases h : p.1 = k <;> simp [h]
theorem valD_put {kvs : List (κ × D)} {k j : κ} {d : D} : valD (putD kvs k d) j = if j = k then some d else valD kvs j := by
  unfold putD
  rw [any_val]
  split
  · rename_i hs
    induction kvs with
    | nil => simp [valD_nil] at hs
    | cons p r ih =>
      rw [List.map_cons, valD_cons]
      by_cases h : p.1 = k
      · simp only [h, if_true]
        by_cases hj : j = k
        · subst hj; simp
        · rw [if_neg (fun z => hj z.symm), if_neg hj, valD_cons, h, if_neg (fun z => hj z.symm)]
          clear ih hs
          induction r with
          | nil => rfl
          | cons p' r ih =>
            rw [List.map_cons, valD_cons, valD_cons, ih]
            by_cases h' : p'.1 = k
            · simp only [h', if_true]; rw [if_neg (fun z => hj z.symm), if_neg (fun z => hj z.symm)]
            · simp only [h', if_false]
      · rw [valD_cons, if_neg h] at hs
        simp only [h, if_false]
        rw [ih hs, valD_cons]
        by_cases hj : j = k
        · subst hj; rw [if_neg h]; simp
        · simp [hj]
  · rename_i hs
    have hn : valD kvs k = none := by simpa using hs
    clear hs
    induction kvs with
    | nil =>
      simp only [List.nil_append, valD_cons, valD_nil]
      by_cases hj : j = k
      · subst hj; simp
      · rw [if_neg (fun z => hj z.symm), if_neg hj]
    | cons p r ih =>
      rw [valD_cons] at hn
      by_cases h : p.1 = k
      · rw [if_pos h] at hn; cases hn
      · rw [if_neg h] at hn
        rw [List.cons_append, valD_cons, ih hn, valD_cons]
        by_cases hj : j = k
        · subst hj; rw [if_neg h]; simp
        · simp [hj]
theorem mem_put {kvs : List (κ × D)} {k : κ} {d : D} {p : κ × D} (h : p ∈ putD kvs k d) : p = (k, d) ∨ p ∈ kvs := by
  unfold putD at h
  split at h
  · obtain ⟨q, h1, h2⟩ := List.mem_map.mp h
    split at h2
    · rename_i e; exact .inl (by rw [← h2, e])
    · exact .inr (h2 ▸ h1)
  · rcases List.mem_append.mp h with h | h
    · exact .inr h
    · exact .inl (by simpa using h)
theorem len_put {kvs : List (κ × D)} {k : κ} {d : D} : (putD kvs k d).length ≤ kvs.length + 1 := by
  unfold putD
  split <;> simp
end
end DL

namespace DL
open PySem PySem.Spec PyProof.Rows L2
/-! ### common and made -/
theorem fmod_abs_lt {a b : Int} (h : b ≠ 0) : (a.fmod b).natAbs < b.natAbs := by
  rcases Int.lt_or_gt_of_ne h with hb | hb
  · have e : a.fmod b = -((-a).fmod (-b)) := by rw [Int.neg_fmod_neg]; omega
    have := fmod_pos (a := -a) (b := -b) (by omega)
    omega
  · have := fmod_pos (a := a) hb
    omega
theorem gcd_fmod (a b : Int) : Int.gcd b (a.fmod b) = Int.gcd a b := by
  rw [Int.fmod_def, Int.mul_comm, Int.gcd_sub_mul_right_right, Int.gcd_comm]
def commonC : List CS := [.while_ (.ccmp .NotEq (.var 1) (.con (.int 0))) [.par2 0 1 (.var 1) (.bin .Mod false (.var 0) (.var 1))],
  .ret (.bi .abs false [(.var 0)])]
def spCommon (ds : List D) (S : DStore) (Q : QE) : Prop := ∃ a b : Int, ds = [.int a, .int b] ∧ Q (.int (Int.gcd a b)) S
theorem spCommon_len : ∀ ds S Q, spCommon ds S Q → ds.length = 2 := by rintro _ _ _ ⟨_, _, rfl, _⟩; rfl
theorem abs_gcd (a : Int) : (if a < 0 then -a else a) = ((Int.gcd a 0 : Nat) : Int) := by
  rw [Int.gcd_zero_right]; split <;> omega
theorem common_ok {G : Fns} : ∀ ds S Q, spCommon ds S Q → wpSs G commonC (startD 2 ds) S { nx := fun _ S' => Q .non S', rt := Q } := by
  rintro ds S Q ⟨a, b, rfl, hQ⟩
  unfold commonC
  simp_arith only []
  refine ⟨fun k ρ S' => S' = S ∧ ∃ x y : Int, ρ = [some (.int x), some (.int y)] ∧ k = y.natAbs ∧ Int.gcd x y = Int.gcd a b, ⟨b.natAbs, rfl, a, b, rfl, rfl, rfl⟩, ?_⟩
  rintro k ρ S' ⟨rfl, x, y, rfl, rfl, hg⟩
  unfold whileTest DL.whileTurn
  simp_arith only []
  refine if_i (fun hy => ?_) fun hy => ?_
  · refine ⟨hy, _, fmod_abs_lt hy, by trivial, y, x.fmod y, rfl, rfl, ?_⟩
    rw [gcd_fmod]; exact hg
  · have hy0 : y = 0 := by
      by_cases h : y = 0
      · exact h
      · exact absurd h hy
    subst hy0
    (try simp_arith only [])
    rw [abs_gcd, hg]
    exact hQ
def madeC (j : Nat) : List CS := [.asg (.name 2) (.call j [(.var 0), (.var 1)]),
  .if_ (.ccmp .Lt (.var 1) (.con (.int 0))) [.asg (.name 2) (.neg (.var 2))] [],
  .ret (.tup [(.bin .FloorDiv false (.var 0) (.var 2)), (.bin .FloorDiv false (.var 1) (.var 2))])]
/-- the fraction of n by d, d above 0 -/
def spMade (ds : List D) (S : DStore) (Q : QE) : Prop := ∃ n d : Int, ds = [.int n, .int d] ∧ 0 < d ∧ d < 2 ^ 8000 ∧ Q (.tup [.int (n / (Int.gcd n d : Nat)), .int (d / (Int.gcd n d : Nat))]) S
theorem spMade_len : ∀ ds S Q, spMade ds S Q → ds.length = 2 := by rintro _ _ _ ⟨_, _, rfl, _⟩; rfl
theorem gcd_pos' {n d : Int} (h : 0 < d) : 0 < Int.gcd n d := Nat.pos_of_ne_zero fun z => by
  have := (Int.gcd_eq_zero_iff.mp z).2
  omega
theorem gcd_le' {n d : Int} (h : 0 < d) : ((Int.gcd n d : Nat) : Int) ≤ d := Int.le_of_dvd h (Int.gcd_dvd_right n d)
theorem div_ok8 {j : Int} (h0 : 0 < j) (h : j < 2 ^ 8000) : DivOk j := div_small (by omega) (pow_lt_9000 (k := 8000) (by
  have : (j.natAbs : Int) < ((2 ^ 8000 : Nat) : Int) := by
    rw [Int.natAbs_of_nonneg (by omega)]
    exact_mod_cast h
  exact_mod_cast this) (by decide))
theorem made_ok {G : Fns} {j : Nat} (hG : G.fn j = spCommon) : ∀ ds S Q, spMade ds S Q → wpSs G (madeC j) (startD 3 ds) S { nx := fun _ S' => Q .non S', rt := Q } := by
  rintro ds S Q ⟨n, d, rfl, h0, hb, hQ⟩
  unfold madeC
  simp_arith only [hG]
  refine ⟨n, d, rfl, ?_⟩
  have hp := gcd_pos' (n := n) h0
  have hl := gcd_le' (n := n) h0
  simp_arith only []
  rw [if_neg (by omega)]
  have hd : DivOk ((Int.gcd n d : Nat) : Int) := div_ok8 (by omega) (Int.lt_of_le_of_lt hl hb)
  refine ⟨hd, hd, ?_⟩
  rw [Int.fdiv_eq_ediv_of_nonneg _ (by omega), Int.fdiv_eq_ediv_of_nonneg _ (by omega)]
  exact hQ
/-! ### bounds of products -/
theorem mul_bd {a b A B : Int} (h1 : -A ≤ a) (h2 : a ≤ A) (h3 : -B ≤ b) (h4 : b ≤ B) : -(A * B) ≤ a * b ∧ a * b ≤ A * B := by
  have hA : 0 ≤ A := by omega
  have hB : 0 ≤ B := by omega
  have h5 : a.natAbs * b.natAbs ≤ A.natAbs * B.natAbs := Nat.mul_le_mul (by omega) (by omega)
  rw [← Int.natAbs_mul, ← Int.natAbs_mul] at h5
  have h6 : 0 ≤ A * B := Int.mul_nonneg hA hB
  omega
end DL

namespace DL
open PySem PySem.Spec PyProof.Rows L2
/-! ### the hand: parted, numbers, pushed, brought_in, wrapped -/
def hndD (a b f bits : Int) : D := .tup [.int a, .int b, .int f, .int bits]
def wshD (X V P : Int) : D := .tup [.int X, .int V, .int P]
def pw2 (f : Int) : Int := 2 ^ f.toNat
def smH (a b X V y y0 : Int) : Int := a * (y - X) + b * (y - y0 - V)
structure HOk (a b f bits : Int) : Prop where
  a1 : -1000000 ≤ a
  a2 : a ≤ 1000000
  b1 : -1000000 ≤ b
  b2 : b ≤ 1000000
  f1 : 0 ≤ f
  f2 : f ≤ 8
  k1 : 4 ≤ bits
  k2 : bits ≤ 40
def partedC : List CS := [.asg (.tup [(.name 4), (.name 5), (.name 6), (.name 7)]) (.var 0),
  .asg (.tup [(.name 8), (.name 9), (.name 10)]) (.var 1),
  .par2 11 12 (.bin .Sub false (.var 2) (.var 8)) (.bin .Sub false (.bin .Sub false (.var 2) (.var 3)) (.var 9)),
  .ret (.tup [(.var 11), (.var 12), (.bin .Mult false (.var 4) (.var 11)), (.bin .Mult false (.var 5) (.var 12)), (.bin .Add false (.bin .Mult false (.var 4) (.var 11)) (.bin .Mult false (.var 5) (.var 12)))])]
def numbersC (j : Nat) : List CS := [.asg (.name 4) (.call j [(.var 0), (.var 1), (.var 2), (.var 3)]),
  .asg (.name 5) (.bin .RShift false (.ix (.var 4) (.con (.int 4))) (.ix (.var 0) (.con (.int 2)))),
  .ret (.bin .Add false (.var 4) (.tup [(.var 5), (.bin .Sub false (.ix (.var 1) (.con (.int 2))) (.var 5))]))]
def pushedC (j : Nat) : List CS := [.ret (.ix (.call j [(.var 0), (.var 1), (.var 2), (.var 3)]) (.con (.int 6)))]
def broughtC : List CS := [.asg (.name 2) (.bin .LShift false (.con (.int 1)) (.bin .Sub false (.ix (.var 0) (.con (.int 3))) (.con (.int 1)))),
  .ret (.bin .Sub false (.bin .Mod false (.bin .Add false (.var 1) (.var 2)) (.bin .Mult false (.con (.int 2)) (.var 2))) (.var 2))]
def bro (bits x : Int) : Int := (x + pw2 (bits - 1)) % (2 * pw2 (bits - 1)) - pw2 (bits - 1)
def numsD (a b f X V P y y0 : Int) : List Int := [y - X, y - y0 - V, a * (y - X), b * (y - y0 - V), smH a b X V y y0, smH a b X V y y0 / pw2 f, P - smH a b X V y y0 / pw2 f]
def wrp (a b f bits X V P y y0 : Int) : Int := bro bits (P - bro bits (bro bits (bro bits (a * bro bits (y - X)) + bro bits (b * bro bits (y - y0 - V))) / pw2 f))
def spHd (R : (a b f bits X V P y y0 : Int) → D) (ds : List D) (S : DStore) (Q : QE) : Prop := ∃ a b f bits X V P y y0, ds = [hndD a b f bits, wshD X V P, .int y, .int y0] ∧ HOk a b f bits ∧ Q (R a b f bits X V P y y0) S
theorem spHd_len {R} : ∀ ds S Q, spHd R ds S Q → ds.length = 4 := by rintro _ _ _ ⟨_, _, _, _, _, _, _, _, _, rfl, _⟩; rfl
def spParted := spHd fun a b f bits X V P y y0 => .tup [.int (y - X), .int (y - y0 - V), .int (a * (y - X)), .int (b * (y - y0 - V)), .int (smH a b X V y y0)]
def spNumbers := spHd fun a b f bits X V P y y0 => .tup ((numsD a b f X V P y y0).map D.int)
def spPushed := spHd fun a b f bits X V P y y0 => .int (P - smH a b X V y y0 / pw2 f)
def spWrapped := spHd fun a b f bits X V P y y0 => .int (wrp a b f bits X V P y y0)
def spBrought (ds : List D) (S : DStore) (Q : QE) : Prop := ∃ a b f bits x, ds = [hndD a b f bits, .int x] ∧ 4 ≤ bits ∧ bits ≤ 40 ∧ Q (.int (bro bits x)) S
theorem spBrought_len : ∀ ds S Q, spBrought ds S Q → ds.length = 2 := by rintro _ _ _ ⟨_, _, _, _, _, rfl, _⟩; rfl
theorem pw2_pos (f : Int) : 1 ≤ pw2 f := by
  unfold pw2
  exact_mod_cast Nat.one_le_two_pow (n := f.toNat)
theorem pw2_le {f : Int} {k : Nat} (h : f ≤ k) : pw2 f ≤ 2 ^ k := by
  unfold pw2
  have : (2 : Nat) ^ f.toNat ≤ 2 ^ k := Nat.pow_le_pow_right (by decide) (by omega)
  exact_mod_cast this
theorem pw2_one (f : Int) : (1 : Int) * 2 ^ f.toNat = pw2 f := by unfold pw2; omega
theorem parted_ok {G : Fns} : ∀ ds S Q, spParted ds S Q → wpSs G partedC (startD 13 ds) S { nx := fun _ S' => Q .non S', rt := Q } := by
  rintro ds S Q ⟨a, b, f, bits, X, V, P, y, y0, rfl, h, hQ⟩
  have := h.a1; have := h.a2; have := h.b1; have := h.b2
  unfold partedC hndD wshD
  simp_arith only []
  have ma : ∀ z, MulOk a z := fun z => mul_small_left (by omega) (by omega)
  have mb : ∀ z, MulOk b z := fun z => mul_small_left (by omega) (by omega)
  exact ⟨by trivial, by trivial, ma _, mb _, ma _, mb _, hQ⟩
theorem numbers_ok {G : Fns} {j : Nat} (hG : G.fn j = spParted) : ∀ ds S Q, spNumbers ds S Q → wpSs G (numbersC j) (startD 6 ds) S { nx := fun _ S' => Q .non S', rt := Q } := by
  rintro ds S Q ⟨a, b, f, bits, X, V, P, y, y0, rfl, h, hQ⟩
  unfold numbersC
  simp_arith only [hG]
  refine ⟨a, b, f, bits, X, V, P, y, y0, rfl, h, ?_⟩
  unfold hndD wshD
  simp_arith only []
  exact ⟨h.f1, by decide, hQ⟩
theorem pushed_ok {G : Fns} {j : Nat} (hG : G.fn j = spNumbers) : ∀ ds S Q, spPushed ds S Q → wpSs G (pushedC j) (startD 4 ds) S { nx := fun _ S' => Q .non S', rt := Q } := by
  rintro ds S Q ⟨a, b, f, bits, X, V, P, y, y0, rfl, h, hQ⟩
  unfold pushedC
  simp_arith only [hG]
  refine ⟨a, b, f, bits, X, V, P, y, y0, rfl, h, ?_⟩
  unfold numsD
  simp_arith only []
  exact hQ
theorem brought_ok {G : Fns} : ∀ ds S Q, spBrought ds S Q → wpSs G broughtC (startD 3 ds) S { nx := fun _ S' => Q .non S', rt := Q } := by
  rintro ds S Q ⟨a, b, f, bits, x, rfl, h1, h2, hQ⟩
  unfold broughtC hndD
  have hp := pw2_pos (bits - 1)
  simp_arith only [pw2_one]
  refine ⟨cpow1 (by omega) (by omega), mul_small_left (by decide) (by decide), by omega, ?_⟩
  rw [Int.fmod_eq_emod_of_nonneg _ (by omega)]
  exact hQ
def wrappedC (j : Nat) : List CS := [.asg (.tup [(.name 9), (.name 10), (.name 11), (.name 12)]) (.var 0),
  .asg (.tup [(.name 13), (.name 14), (.name 15)]) (.var 1),
  .asg (.name 4) (.call j [(.var 0), (.bin .Sub false (.var 2) (.var 13))]),
  .asg (.name 5) (.call j [(.var 0), (.bin .Sub false (.bin .Sub false (.var 2) (.var 3)) (.var 14))]),
  .asg (.name 6) (.call j [(.var 0), (.bin .Mult false (.var 9) (.var 4))]),
  .asg (.name 7) (.call j [(.var 0), (.bin .Mult false (.var 10) (.var 5))]),
  .asg (.name 8) (.call j [(.var 0), (.bin .RShift false (.call j [(.var 0), (.bin .Add false (.var 6) (.var 7))]) (.var 11))]),
  .ret (.call j [(.var 0), (.bin .Sub false (.var 15) (.var 8))])]
theorem wrapped_ok {G : Fns} {j : Nat} (hG : G.fn j = spBrought) : ∀ ds S Q, spWrapped ds S Q → wpSs G (wrappedC j) (startD 16 ds) S { nx := fun _ S' => Q .non S', rt := Q } := by
  rintro ds S Q ⟨a, b, f, bits, X, V, P, y, y0, rfl, h, hQ⟩
  have := h.a1; have := h.a2; have := h.b1; have := h.b2; have := h.k1; have := h.k2
  have ma : ∀ z, MulOk a z := fun z => mul_small_left (by omega) (by omega)
  have mb : ∀ z, MulOk b z := fun z => mul_small_left (by omega) (by omega)
  unfold wrappedC hndD wshD
  simp_arith only [hG]
  refine ⟨by trivial, by trivial, a, b, f, bits, _, rfl, h.k1, h.k2, ?_⟩
  simp_arith only [hG]
  refine ⟨a, b, f, bits, _, rfl, h.k1, h.k2, ?_⟩
  simp_arith only [hG]
  refine ⟨ma _, a, b, f, bits, _, rfl, h.k1, h.k2, ?_⟩
  simp_arith only [hG]
  refine ⟨mb _, a, b, f, bits, _, rfl, h.k1, h.k2, ?_⟩
  simp_arith only [hG]
  refine ⟨a, b, f, bits, _, rfl, h.k1, h.k2, ?_⟩
  simp_arith only [hG]
  refine ⟨h.f1, a, b, f, bits, _, rfl, h.k1, h.k2, ?_⟩
  simp_arith only [hG]
  exact ⟨a, b, f, bits, _, rfl, h.k1, h.k2, hQ⟩
/-! ### about bro -/
theorem bro_bd (bits x : Int) : -pw2 (bits - 1) ≤ bro bits x ∧ bro bits x < pw2 (bits - 1) := by
  have hp := pw2_pos (bits - 1)
  have h1 := Int.emod_nonneg (x + pw2 (bits - 1)) (show 2 * pw2 (bits - 1) ≠ 0 by omega)
  have h2 := Int.emod_lt_of_pos (x + pw2 (bits - 1)) (show 0 < 2 * pw2 (bits - 1) by omega)
  unfold bro
  omega
theorem bro_fit {bits x : Int} (h1 : -pw2 (bits - 1) ≤ x) (h2 : x < pw2 (bits - 1)) : bro bits x = x := by
  unfold bro
  rw [Int.emod_eq_of_lt (by omega) (by omega)]; omega
/-- the same but for multiples of the stretch -/
def Cg (bits x y : Int) : Prop := ∃ k, x = y + k * (2 * pw2 (bits - 1))
theorem bro_cg {bits x y : Int} (h : Cg bits x y) : bro bits x = bro bits y := by
  obtain ⟨k, rfl⟩ := h
  unfold bro
  rw [show y + k * (2 * pw2 (bits - 1)) + pw2 (bits - 1) = (y + pw2 (bits - 1)) + k * (2 * pw2 (bits - 1)) by omega, Int.add_mul_emod_self_right]
theorem cg_bro (bits x : Int) : Cg bits (bro bits x) x := by
  refine ⟨-((x + pw2 (bits - 1)) / (2 * pw2 (bits - 1))), ?_⟩
  have := Int.emod_add_mul_ediv (x + pw2 (bits - 1)) (2 * pw2 (bits - 1))
  unfold bro
  rw [Int.neg_mul, Int.mul_comm ((x + pw2 (bits - 1)) / (2 * pw2 (bits - 1)))]
  omega
theorem Cg.refl (bits x : Int) : Cg bits x x := ⟨0, by omega⟩
theorem Cg.symm {bits x y : Int} (h : Cg bits x y) : Cg bits y x := by
  obtain ⟨k, rfl⟩ := h; exact ⟨-k, by rw [Int.neg_mul]; omega⟩
theorem Cg.trans {bits x y z : Int} (h : Cg bits x y) (h' : Cg bits y z) : Cg bits x z := by
  obtain ⟨k, rfl⟩ := h; obtain ⟨l, rfl⟩ := h'; exact ⟨k + l, by rw [Int.add_mul]; omega⟩
theorem Cg.add {bits x y u v : Int} (h : Cg bits x y) (h' : Cg bits u v) : Cg bits (x + u) (y + v) := by
  obtain ⟨k, rfl⟩ := h; obtain ⟨l, rfl⟩ := h'; exact ⟨k + l, by rw [Int.add_mul]; omega⟩
theorem Cg.sub {bits x y u v : Int} (h : Cg bits x y) (h' : Cg bits u v) : Cg bits (x - u) (y - v) := by
  obtain ⟨k, rfl⟩ := h; obtain ⟨l, rfl⟩ := h'; exact ⟨k - l, by rw [Int.sub_mul]; omega⟩
theorem Cg.mul {bits x y u v : Int} (h : Cg bits x y) (h' : Cg bits u v) : Cg bits (x * u) (y * v) := by
  obtain ⟨k, rfl⟩ := h; obtain ⟨l, rfl⟩ := h'
  exact ⟨k * v + y * l + k * l * (2 * pw2 (bits - 1)), by grind⟩
/-- the sum as wrapped -/
def mid (a b bits X V y y0 : Int) : Int := bro bits (bro bits (a * bro bits (y - X)) + bro bits (b * bro bits (y - y0 - V)))
theorem mid_eq (a b bits X V y y0 : Int) : mid a b bits X V y y0 = bro bits (smH a b X V y y0) := by
  unfold mid smH
  refine bro_cg (Cg.add ?_ ?_)
  · exact (cg_bro _ _).trans (Cg.mul (Cg.refl _ _) (cg_bro _ _))
  · exact (cg_bro _ _).trans (Cg.mul (Cg.refl _ _) (cg_bro _ _))
theorem wrp_eq (a b f bits X V P y y0 : Int) : wrp a b f bits X V P y y0 = bro bits (P - bro bits (bro bits (smH a b X V y y0) / pw2 f)) := by
  rw [← mid_eq]; rfl
/-- what is asked of a push hangs on its parts but for multiples -/
theorem wrp_cg {a b f bits X V P y y0 a' b' X' V' P' y' y0' : Int} (h1 : Cg bits a a') (h2 : Cg bits b b') (h3 : Cg bits X X') (h4 : Cg bits V V') (h5 : Cg bits P P') (h6 : Cg bits y y') (h7 : Cg bits y0 y0') :
    wrp a b f bits X V P y y0 = wrp a' b' f bits X' V' P' y' y0' := by
  rw [wrp_eq, wrp_eq]
  have e : bro bits (smH a b X V y y0) = bro bits (smH a' b' X' V' y' y0') := bro_cg ((Cg.mul h1 (h6.sub h3)).add (Cg.mul h2 ((h6.sub h7).sub h4)))
  rw [e]
  exact bro_cg (h5.sub (Cg.refl _ _))
theorem wrp_fit {a b f bits X V P y y0 : Int} (h1 : -pw2 (bits - 1) ≤ smH a b X V y y0 ∧ smH a b X V y y0 < pw2 (bits - 1)) (h2 : -pw2 (bits - 1) ≤ smH a b X V y y0 / pw2 f ∧ smH a b X V y y0 / pw2 f < pw2 (bits - 1))
    (h3 : -pw2 (bits - 1) ≤ P - smH a b X V y y0 / pw2 f ∧ P - smH a b X V y y0 / pw2 f < pw2 (bits - 1)) : wrp a b f bits X V P y y0 = P - smH a b X V y y0 / pw2 f := by
  rw [wrp_eq, bro_fit h1.1 h1.2, bro_fit h2.1 h2.2, bro_fit h3.1 h3.2]
theorem pw2_succ {bits : Int} (h : 1 ≤ bits) : pw2 bits = 2 * pw2 (bits - 1) := by
  unfold pw2
  have : bits.toNat = (bits - 1).toNat + 1 := by omega
  rw [this, Int.pow_succ]; omega
theorem x_sl {m : Bool} {S : DStore} {xs : List D} {lo hi : Option Int} {Q : QE} : slD m S (.tup xs) lo hi Q = Q (.tup (cutD xs lo hi)) S := rfl
/-! ### lists of one thing -/
theorem gather_const {xs : List D} {v : D} {I : DStore → Prop} {S : DStore} {turn : D → DStore → (Option D → DStore → Prop) → Prop} {Q : List D → DStore → Prop} (hl : xs.length ≤ sizeLine) (hI : I S)
    (hs : ∀ x ∈ xs, ∀ N : Option D → DStore → Prop, N (some v) S → turn x S N) (hQ : Q (List.replicate xs.length v) S) : wpGather xs I S turn Q := by
  have := gather_map (xs := xs) (fun x => x) (fun _ => v) (I := I) (S := S) (turn := turn) (Q := Q) hl hI hs (by rw [List.map_const']; exact hQ)
  rwa [List.map_id'] at this
theorem purs_rep {d : D} {p : PyData} (h : pur d = some p) : ∀ n, purs (List.replicate n d) = some (List.replicate n p)
  | 0 => rfl
  | n + 1 => by rw [List.replicate_succ, List.replicate_succ, purs, h, purs_rep h n]; rfl
theorem lay_rep {p : PyData} (h : p.canLay0 = true) : ∀ n, PyData.canLayAll0 (List.replicate n p) = true
  | 0 => rfl
  | n + 1 => by rw [List.replicate_succ, PyData.canLayAll0, h, lay_rep h n]; rfl
theorem depth_rep (p : PyData) : ∀ n, PyData.depthAll (List.replicate n p) ≤ p.depth
  | 0 => Nat.zero_le _
  | n + 1 => by
    rw [List.replicate_succ, PyData.depthAll]
    exact Nat.max_le.mpr ⟨Nat.le_refl _, depth_rep p n⟩
theorem flat_rep {α : Type} (x : α) : ∀ n, (List.replicate n [x]).flatten = List.replicate n x
  | 0 => rfl
  | n + 1 => by rw [List.replicate_succ, List.flatten_cons, flat_rep x n]; rfl
end DL

namespace DL
open PySem PySem.Spec PyProof.Rows L2
/-! ### texts of wide numbers -/
mutual
/-- all numbers of at most 500 digits -/
def okW : PyData → Bool
  | .none => true
  | .bool _ => true
  | .int i => decide (i.natAbs < 10 ^ 500)
  | .str x => decide ((reprText x).length ≤ 1000)
  | .list xs => okWs xs
  | .tuple xs => okWs xs
  | .dict _ => false
def okWs : List PyData → Bool
  | [] => true
  | x :: xs => okW x && okWs xs
def szW : PyData → Nat
  | .none => 8
  | .bool _ => 8
  | .int _ => 504
  | .str _ => 1000
  | .list xs => szWs xs + 8
  | .tuple xs => szWs xs + 8
  | .dict _ => 0
def szWs : List PyData → Nat
  | [] => 0
  | x :: xs => szW x + 2 + szWs xs
end
theorem log2_wide {i : Int} (h : i.natAbs < 10 ^ 500) : i.natAbs.log2 < 1920 := by
  have h40 : i.natAbs < 2 ^ 1900 := Nat.lt_of_lt_of_le h (by decide +kernel)
  have := PySem.Flt.log2_lt_of (by decide) h40
  omega
theorem shown_wide {i : Int} (h : i.natAbs < 10 ^ 500) : (PyData.shown (.int i)).length ≤ 504 := by
  have e := int_text_length_le10 (k := 500) (by decide) h
  show (Str.ofString (toString i)).length ≤ 504
  rw [PySem.ofString_length]; omega
mutual
theorem szW_ok : ∀ p : PyData, okW p = true → p.showable = true ∧ p.hasDict = false ∧ p.shown.length ≤ szW p
  | .none, h => ⟨rfl, rfl, by decide⟩
  | .bool b, h => ⟨rfl, rfl, by cases b <;> decide⟩
  | .int i, h => by
    simp only [okW, decide_eq_true_eq] at h
    exact ⟨by simp [PyData.showable, log2_wide h], rfl, shown_wide h⟩
  | .str x, h => by simp only [okW, decide_eq_true_eq] at h; exact ⟨rfl, rfl, h⟩
  | .list xs, h => by
    simp only [okW] at h
    obtain ⟨a, b, d⟩ := szWs_ok xs h
    refine ⟨a, b, ?_⟩
    have := listText_len_le (PyData.shownAll xs)
    show (listText (PyData.shownAll xs)).length ≤ szWs xs + 8
    omega
  | .tuple xs, h => by
    simp only [okW] at h
    obtain ⟨a, b, d⟩ := szWs_ok xs h
    refine ⟨a, b, ?_⟩
    have := tupleText_len_le (PyData.shownAll xs)
    show (tupleText (PyData.shownAll xs)).length ≤ szWs xs + 8
    omega
  | .dict _, h => by simp [okW] at h
theorem szWs_ok : ∀ xs : List PyData, okWs xs = true → PyData.showableAll xs = true ∧ PyData.hasDictAll xs = false ∧ ((PyData.shownAll xs).map (·.length)).sum + 2 * (PyData.shownAll xs).length ≤ szWs xs
  | [], h => ⟨rfl, rfl, by simp [PyData.shownAll]⟩
  | x :: xs, h => by
    simp only [okWs, Bool.and_eq_true] at h
    obtain ⟨a, b, d⟩ := szW_ok x h.1
    obtain ⟨a', b', d'⟩ := szWs_ok xs h.2
    refine ⟨by simp [PyData.showableAll, a, a'], by simp [PyData.hasDictAll, b, b'], ?_⟩
    simp only [PyData.shownAll, List.map_cons, List.sum_cons, List.length_cons, szWs]
    omega
end
theorem reprW {S : DStore} {m : Bool} {d : D} {p : PyData} {Q : QE} (e : purS S d = some p) (h : okW p = true) (hs : szW p ≤ 16000000) (hd : p.depth ≤ 50) (q : Q (.str p.shown) S) : biD .repr1 m [d] S Q := by
  obtain ⟨a, b, c⟩ := szW_ok p h
  exact ⟨p, e, ⟨a, hd, b, Nat.le_trans c (Nat.le_trans hs (by decide))⟩, q⟩
theorem wide_of {i : Int} {k : Nat} (h : i.natAbs < 2 ^ k) (hk : k ≤ 1600) : i.natAbs < 10 ^ 500 :=
  Nat.lt_of_lt_of_le h (Nat.le_trans (Nat.pow_le_pow_right (by decide) hk) (by decide +kernel))
/-! ### fractions -/
/-- a fraction in lowest terms -/
def frD (q : Rat) : D := .tup [.int q.num, .int q.den]
theorem fr_made {n d : Int} (h : 0 < d) : D.tup [.int (n / (Int.gcd n d : Nat)), .int (d / (Int.gcd n d : Nat))] = frD ((n : Rat) / (d : Rat)) := by
  obtain ⟨k, rfl⟩ := Int.eq_ofNat_of_zero_le (Int.le_of_lt h)
  have hk : k ≠ 0 := by omega
  have e : ((n : Rat) / ((k : Int) : Rat)) = Rat.normalize n k hk := by
    rw [Rat.normalize_eq_mkRat, Rat.mkRat_eq_div]; rfl
  rw [e, Rat.normalize_eq]
  unfold frD
  simp [Int.gcd]
theorem rat_self (q : Rat) : ((q.num : Rat) / ((q.den : Int) : Rat)) = q := by
  have := Rat.mkRat_self q
  rw [Rat.mkRat_eq_div] at this
  exact this
theorem den_pos (q : Rat) : (0 : Int) < q.den := by have := q.den_nz; omega
theorem den_ne (q : Rat) : ((q.den : Int) : Rat) ≠ 0 := by
  have := den_pos q
  intro z
  have : (q.den : Int) = 0 := by exact_mod_cast z
  omega
/-- numerator and denominator of less than k bits -/
structure Rk (k : Nat) (q : Rat) : Prop where
  n : q.num.natAbs < 2 ^ k
  d : q.den < 2 ^ k
theorem Rk.mono {k l : Nat} {q : Rat} (h : Rk k q) (hl : k ≤ l) : Rk l q := ⟨Nat.lt_of_lt_of_le h.n (Nat.pow_le_pow_right (by decide) hl), Nat.lt_of_lt_of_le h.d (Nat.pow_le_pow_right (by decide) hl)⟩
theorem rk_div {n d : Int} {k : Nat} (h : 0 < d) (hn : n.natAbs < 2 ^ k) (hd : d.natAbs < 2 ^ k) : Rk k ((n : Rat) / (d : Rat)) := by
  obtain ⟨j, rfl⟩ := Int.eq_ofNat_of_zero_le (Int.le_of_lt h)
  have hk : j ≠ 0 := by omega
  have e : ((n : Rat) / ((j : Int) : Rat)) = Rat.normalize n j hk := by
    rw [Rat.normalize_eq_mkRat, Rat.mkRat_eq_div]; rfl
  rw [e, Rat.normalize_eq]
  constructor
  · show (n / _).natAbs < _
    refine Nat.lt_of_le_of_lt ?_ hn
    exact Int.natAbs_ediv_le_natAbs n _
  · show j / _ < _
    exact Nat.lt_of_le_of_lt (Nat.div_le_self _ _) (by simpa using hd)
theorem rk_int {n : Int} {k : Nat} (hn : n.natAbs < 2 ^ k) (hk : 0 < k) : Rk k (n : Rat) := ⟨by simpa using hn, by
  show (1 : Nat) < 2 ^ k
  exact Nat.one_lt_two_pow (by omega)⟩
theorem natAbs_mul_lt {a b : Int} {k l : Nat} (h1 : a.natAbs < 2 ^ k) (h2 : b.natAbs < 2 ^ l) : (a * b).natAbs < 2 ^ (k + l) := by
  rw [Int.natAbs_mul, Nat.pow_add]
  exact Nat.mul_lt_mul'' h1 h2
theorem natAbs_add_lt {a b : Int} {k : Nat} (h1 : a.natAbs < 2 ^ k) (h2 : b.natAbs < 2 ^ k) : (a + b).natAbs < 2 ^ (k + 1) := by
  have := Int.natAbs_add_le a b
  rw [Nat.pow_succ]; omega
theorem plus_num (p q : Rat) : (((p.num * q.den + q.num * p.den : Int) : Rat) / ((p.den * q.den : Int) : Rat)) = p + q := by
  have h1 := rat_self p
  have h2 := rat_self q
  have e1 := den_ne p
  have e2 := den_ne q
  simp only [Rat.intCast_add, Rat.intCast_mul]
  generalize ((p.den : Int) : Rat) = a at *
  generalize ((q.den : Int) : Rat) = b at *
  generalize ((p.num : Int) : Rat) = n at *
  generalize ((q.num : Int) : Rat) = m at *
  rw [← h1, ← h2]
  grind
theorem mul_wide {i j : Int} {a b : Nat} (ha : i.natAbs < 2 ^ a) (hb : j.natAbs < 2 ^ b) (h0 : 0 < a) (h1 : 0 < b) (h : a + b ≤ 1000000) : MulOk i j := .inr (wide_mul ha hb h0 h1 h)
def plusC (j : Nat) : List CS := [.ret (.call j [(.bin .Add false (.bin .Mult false (.ix (.var 0) (.con (.int 0))) (.ix (.var 1) (.con (.int 1)))) (.bin .Mult false (.ix (.var 1) (.con (.int 0))) (.ix (.var 0) (.con (.int 1))))), (.bin .Mult false (.ix (.var 0) (.con (.int 1))) (.ix (.var 1) (.con (.int 1))))])]
def spPlus (ds : List D) (S : DStore) (Q : QE) : Prop := ∃ p q : Rat, ds = [frD p, frD q] ∧ Rk 3900 p ∧ Rk 3900 q ∧ Q (frD (p + q)) S
theorem spPlus_len : ∀ ds S Q, spPlus ds S Q → ds.length = 2 := by rintro _ _ _ ⟨_, _, rfl, _⟩; rfl
theorem lt_8000 {x : Int} {k : Nat} (h0 : 0 < x) (h : x.natAbs < 2 ^ k) (hk : k ≤ 8000) : x < 2 ^ 8000 := by
  have h1 : x.natAbs < 2 ^ 8000 := Nat.lt_of_lt_of_le h (Nat.pow_le_pow_right (by decide) hk)
  have h2 : (x.natAbs : Int) < ((2 ^ 8000 : Nat) : Int) := by exact_mod_cast h1
  rw [Int.natAbs_of_nonneg (by omega)] at h2
  exact_mod_cast h2
theorem plus_ok {G : Fns} {j : Nat} (hG : G.fn j = spMade) : ∀ ds S Q, spPlus ds S Q → wpSs G (plusC j) (startD 2 ds) S { nx := fun _ S' => Q .non S', rt := Q } := by
  rintro ds S Q ⟨p, q, rfl, hp, hq, hQ⟩
  unfold plusC frD
  simp_arith only [hG]
  have hd1 : ((p.den : Int)).natAbs < 2 ^ 3900 := by simpa using hp.d
  have hd2 : ((q.den : Int)).natAbs < 2 ^ 3900 := by simpa using hq.d
  have m1 : ∀ a b : Int, a.natAbs < 2 ^ 3900 → b.natAbs < 2 ^ 3900 → MulOk a b := fun a b h1 h2 => mul_wide h1 h2 (by decide) (by decide) (by decide)
  have hpos : (0 : Int) < p.den * q.den := Int.mul_pos (den_pos p) (den_pos q)
  refine ⟨m1 _ _ hp.n hd2, m1 _ _ hq.n hd1, m1 _ _ hd1 hd2, _, _, rfl, hpos, lt_8000 hpos (natAbs_mul_lt hd1 hd2) (by decide), ?_⟩
  rw [fr_made hpos, plus_num]
  exact hQ
end DL

namespace Law_k23
open PySem PySem.Spec PyProof.Rows L2 DL
def topS (i : Nat) : Stmt := PySem.Challenge.pw_drivenwheels_k23_whole_pushes_never_meet.main.body.getD i (.Pass ⟨0, 0, 0, 0⟩)
abbrev s0 : Stmt := topS 1
def n0 : List Str := ["coils", "ticks", "place", "push", "rows", "ahead", "back"]
def p0 : List Str := ["coils", "ticks", "place", "push"]
theorem sc0 : FnScope n0 p0 (L2.defScope s0) := ⟨rfl, rfl, rfl, by decide +kernel, rfl, by decide +kernel, by decide +kernel⟩
/-- drive -/
def c0 : List CS := [.if_ (.ccmp .Eq (.var 3) (.con (.int 0))) [.ret (.tup [(.tup []), (.con .non)])] [],
  .asg (.name 4) (.ix (.var 0) (.con (.int 2))),
  .asg (.tup [(.name 5), (.name 6)]) (.ix (.var 4) (.bin .Mod false (.var 2) (.bi .len false [(.var 4)]))),
  .ret (.tup [(.ite (.ccmp .Gt (.var 3) (.con (.int 0))) (.var 5) (.var 6)), (.bin .Add false (.bin .Sub false (.var 1) (.bi .abs false [(.var 3)])) (.con (.int 1)))])]
abbrev s1 : Stmt := topS 2
def n1 : List Str := ["ticks", "drives", "found", "switches", "first", "tick"]
def p1 : List Str := ["ticks", "drives"]
theorem sc1 : FnScope n1 p1 (L2.defScope s1) := ⟨rfl, rfl, rfl, by decide +kernel, rfl, by decide +kernel, by decide +kernel⟩
/-- switches_at -/
def c1 : List CS := [.asg (.name 2) (.lst true []),
  .for_ (.tup [(.name 3), (.name 4)]) (.seq (.var 1)) [.for_ (.name 5) (.range2 (.con (.int 1)) (.bin .Add false (.var 0) (.con (.int 1)))) [.append (.var 2) (.ite (.cand (.ccmp .IsNot (.var 4) (.con .non)) (.ccmp .GtE (.var 5) (.var 4))) (.var 3) (.tup []))]],
  .ret (.bi .tuple1 false [(.var 2)])]
abbrev s2 : Stmt := topS 3
def n2 : List Str := ["coils", "found", "a", "b", "switch", "others"]
def p2 : List Str := ["coils"]
theorem sc2 : FnScope n2 p2 (L2.defScope s2) := ⟨rfl, rfl, rfl, by decide +kernel, rfl, by decide +kernel, by decide +kernel⟩
/-- those_against -/
def c2 : List CS := [.setLc 1 (.dcomp (.var 4) (.lst true []) (.name 4) (.range1 (.ix (.var 0) (.con (.int 0)))) [4]),
  .for_ (.tup [(.name 2), (.name 3)]) (.seq (.ix (.var 0) (.con (.int 1)))) [.append (.kix (.var 1) (.var 2)) (.var 3),
    .append (.kix (.var 1) (.var 3)) (.var 2)],
  .lockK (.ret (.dcomp (.var 4) (.bi .sorted1 true [(.var 5)]) (.tup [(.name 4), (.name 5)]) (.kitems (.var 1)) [4, 5]))]
abbrev s3 : Stmt := topS 4
def n3 : List Str := ["others", "here", "there", "is_same", "a", "b"]
def p3 : List Str := ["others", "here", "there", "is_same"]
theorem sc3 : FnScope n3 p3 (L2.defScope s3) := ⟨rfl, rfl, rfl, by decide +kernel, rfl, by decide +kernel, by decide +kernel⟩
/-- met_at -/
def c3 : List CS := [.for_ (.name 4) (.seq (.bi .sortT false [(.var 1)])) [.for_ (.name 5) (.seq (.kix (.var 0) (.var 4))) [.if_ (.cand (.ccmp .In (.var 5) (.var 2)) (.cor (.ccmp .Lt (.var 4) (.var 5)) (.cnot (.cval (.var 3))))) [.ret (.tup [(.var 4), (.var 5)])] []]],
  .ret (.con .non)]
abbrev s4 : Stmt := topS 5
def n4 : List Str := ["coils", "dead", "ticks", "drives", "rows", "others", "s", "here", "t", "met"]
def p4 : List Str := ["coils", "dead", "ticks", "drives"]
theorem sc4 : FnScope n4 p4 (L2.defScope s4) := ⟨rfl, rfl, rfl, by decide +kernel, rfl, by decide +kernel, by decide +kernel⟩
/-- first_against -/
def c4 : List CS := [.par2 4 5 (.call 1 [(.var 2), (.var 3)]) (.call 2 [(.var 0)]),
  .for_ (.tup [(.name 6), (.name 7)]) (.enum (.var 4)) [.if_ (.ccmp .Eq (.bi .len false [(.var 7)]) (.con (.int 0))) [.cont] [],
    .for_ (.name 8) (.range2 (.var 6) (.bi .min2 false [(.bi .len false [(.var 4)]), (.bin .Add false (.bin .Add false (.var 6) (.var 1)) (.con (.int 1)))])) [.asg (.name 9) (.call 3 [(.var 5), (.var 7), (.ix (.var 4) (.var 8)), (.cmp .Eq (.var 6) (.var 8))]),
    .if_ (.ccmp .IsNot (.var 9) (.con .non)) [.ret (.bin .Add false (.tup [(.var 6), (.var 8)]) (.var 9))] []]],
  .ret (.con .non)]
abbrev s5 : Stmt := topS 7
def n5 : List Str := ["_law_script", "_law_k", "_law_cell", "_law_great"]
def p5 : List Str := ["_law_script", "_law_k"]
theorem sc5 : FnScope n5 p5 (L2.defScope s5) := ⟨rfl, rfl, rfl, by decide +kernel, rfl, by decide +kernel, by decide +kernel⟩
/-- _law_hand -/
def c5 : List CS := [.asg (.name 2) (.ite (.ccmp .Lt (.var 1) (.bi .len false [(.var 0)])) (.ix (.var 0) (.var 1)) (.con (.int 0))),
  .asg (.name 3) (.ite (.ccmp .GtE (.bi .abs false [(.var 2)]) (.bin .Pow false (.con (.int 10)) (.con (.int 18)))) (.bin .Mod false (.bi .abs false [(.var 2)]) (.bin .Mult false (.bin .Mult false (.bin .Pow false (.con (.int 10)) (.con (.int 60))) (.bin .Pow false (.con (.int 10)) (.con (.int 60)))) (.bin .Pow false (.con (.int 10)) (.con (.int 60))))) (.con (.int 0))),
  .ret (.lst true [(.var 3), (.bin .Mod false (.bin .Add false (.bin .Add false (.bin .Mult false (.bin .Mod false (.var 2) (.con (.int 2305843009213693951))) (.con (.int 1000033))) (.bin .Mult false (.con (.int 6857)) (.var 1))) (.con (.int 41))) (.con (.int 2305843009213693921))), (.con (.int 0))])]
abbrev s6 : Stmt := topS 8
def n6 : List Str := ["_law_hand_here", "_law_many", "_law_turn", "_law_one", "_law_two", "_law_mixed", "_law_last", "_law_digit"]
def p6 : List Str := ["_law_hand_here", "_law_many"]
theorem sc6 : FnScope n6 p6 (L2.defScope s6) := ⟨rfl, rfl, rfl, by decide +kernel, rfl, by decide +kernel, by decide +kernel⟩
/-- _law_take -/
def c6 : List CS := [.if_ (.ccmp .Gt (.ix (.var 0) (.con (.int 0))) (.con (.int 0))) [.asg (.name 7) (.bin .Mod false (.ix (.var 0) (.con (.int 0))) (.var 1)),
    .asg (.sub (.var 0) (.con (.int 0))) (.bin .FloorDiv false (.ix (.var 0) (.con (.int 0))) (.var 1)),
    .ret (.var 7)] [],
  .asg (.name 2) (.bin .Add false (.ix (.var 0) (.con (.int 2))) (.con (.int 1))),
  .asg (.sub (.var 0) (.con (.int 2))) (.var 2),
  .asg (.name 3) (.bin .Add false (.ix (.var 0) (.con (.int 1))) (.bin .Mult false (.con (.int 15485867)) (.var 2))),
  .asg (.name 4) (.bin .Add false (.bin .Add false (.bin .Mod false (.ix (.var 0) (.con (.int 1))) (.con (.int 7907))) (.bin .Mult false (.con (.int 32452867)) (.var 2))) (.con (.int 19))),
  .asg (.name 5) (.bin .Mod false (.bin .Mult false (.var 3) (.var 4)) (.con (.int 2305843009213693951))),
  .asg (.name 6) (.bin .Add false (.bin .Add false (.bin .Mod false (.var 5) (.con (.int 1000003))) (.bin .Mult false (.con (.int 6700441)) (.var 2))) (.con (.int 7))),
  .ret (.bin .Mod false (.bin .FloorDiv false (.bin .Mod false (.bin .Mult false (.bin .Add false (.var 5) (.con (.int 11))) (.var 6)) (.con (.int 2305843009213693907))) (.con (.int 64))) (.var 1))]
abbrev s7 : Stmt := topS 9
def n7 : List Str := ["_law_hand_here", "_law_some"]
def p7 : List Str := ["_law_hand_here", "_law_some"]
theorem sc7 : FnScope n7 p7 (L2.defScope s7) := ⟨rfl, rfl, rfl, by decide +kernel, rfl, by decide +kernel, by decide +kernel⟩
/-- _law_pick -/
def c7 : List CS := [.ret (.ix (.var 1) (.call 6 [(.var 0), (.bi .len false [(.var 1)])]))]
abbrev s8 : Stmt := topS 11
def n8 : List Str := ["_law_hand_here", "_law_many", "_law_against", "_law_found", "_law_switch", "_law_near", "_law_one"]
def p8 : List Str := ["_law_hand_here", "_law_many", "_law_against"]
theorem sc8 : FnScope n8 p8 (L2.defScope s8) := ⟨rfl, rfl, rfl, by decide +kernel, rfl, by decide +kernel, by decide +kernel⟩
/-- _law_side -/
def c8 : List CS := [.asg (.name 3) (.lst true [(.call 6 [(.var 0), (.var 1)])]),
  .for_ (.name 4) (.range1 (.var 1)) [.setLc 5 (.lc false (.var 6) (.name 6) (.seq (.var 3)) [(.ccmp .In (.tup [(.bi .min2 false [(.var 6), (.var 4)]), (.bi .max2 false [(.var 6), (.var 4)])]) (.var 2))] [6]),
    .if_ (.cand (.ccmp .NotIn (.var 4) (.var 3)) (.cand (.ccmp .Eq (.var 5) (.lst false [])) (.ccmp .Eq (.call 6 [(.var 0), (.con (.int 3))]) (.con (.int 0))))) [.append (.var 3) (.var 4)] []],
  .ret (.bi .tuple1 false [(.bi .sorted1 false [(.var 3)])])]
abbrev s9 : Stmt := topS 10
def n9 : List Str := ["_law_hand_here", "_law_turn", "_law_against", "_law_many", "_law_pairs", "_law_rows", "_law_a", "_law_b"]
def p9 : List Str := ["_law_hand_here"]
theorem sc9 : FnScope n9 p9 (L2.defScope s9) := ⟨rfl, rfl, rfl, by decide +kernel, rfl, by decide +kernel, by decide +kernel⟩
/-- _law_any_coils -/
def c9 : List CS := [.par3 3 4 5 (.bin .Add false (.con (.int 2)) (.call 6 [(.var 0), (.con (.int 11))])) .dnew (.lst true []),
  .for_ (.name 1) (.range1 (.bin .Add false (.con (.int 1)) (.call 6 [(.var 0), (.bin .Mult false (.con (.int 2)) (.var 3))]))) [.par2 6 7 (.call 6 [(.var 0), (.var 3)]) (.call 6 [(.var 0), (.var 3)]),
    .if_ (.ccmp .NotEq (.var 6) (.var 7)) [.asg (.dsub (.var 4) [(.bi .min2 false [(.var 6), (.var 7)]), (.bi .max2 false [(.var 6), (.var 7)])]) (.con (.bl true))] []],
  .asg (.name 2) (.bi .tuple1 false [(.bi .sorted1 false [(.var 4)])]),
  .for_ (.name 1) (.range1 (.call 7 [(.var 0), (.lst false [(.con (.int 1)), (.con (.int 2)), (.con (.int 3)), (.con (.int 4)), (.con (.int 6)), (.con (.int 24))])])) [.append (.var 5) (.tup [(.call 8 [(.var 0), (.var 3), (.var 2)]), (.call 8 [(.var 0), (.var 3), (.var 2)])])],
  .ret (.tup [(.var 3), (.var 2), (.bi .tuple1 false [(.var 5)])])]
abbrev s10 : Stmt := topS 12
def n10 : List Str := ["_law_hand_here", "_law_most", "_law_beat", "_law_found", "_law_side_here", "_law_where"]
def p10 : List Str := ["_law_hand_here", "_law_most"]
theorem sc10 : FnScope n10 p10 (L2.defScope s10) := ⟨rfl, rfl, rfl, by decide +kernel, rfl, by decide +kernel, by decide +kernel⟩
/-- _law_beats -/
def c10 : List CS := [.par2 3 4 (.lst true []) (.con (.int 1)),
  .for_ (.name 2) (.range1 (.bin .Add false (.con (.int 2)) (.call 6 [(.var 0), (.con (.int 11))]))) [.asg (.name 4) (.call 7 [(.var 0), (.lst false [(.bin .Sub false (.con (.int 0)) (.var 4)), (.bin .Sub false (.con (.int 0)) (.var 4)), (.var 4)])]),
    .asg (.name 5) (.call 7 [(.var 0), (.lst false [(.call 6 [(.var 0), (.con (.int 5))]), (.bin .Sub false (.call 6 [(.var 0), (.con (.int 90))]) (.con (.int 45)))])]),
    .append (.var 3) (.tup [(.var 5), (.call 7 [(.var 0), (.lst false [(.bin .Mult false (.var 4) (.var 1)), (.bin .Mult false (.var 4) (.var 1)), (.bin .Mult false (.var 4) (.call 6 [(.var 0), (.bin .Add false (.var 1) (.con (.int 1)))])), (.con (.int 0))])])])],
  .ret (.var 3)]
abbrev s11 : Stmt := topS 13
def n11 : List Str := ["_law_coils", "_law_told", "_law_ticks", "_law_apart", "_law_last", "_law_found", "_law_at", "_law_switches", "_law_first", "_law_tick", "_law_here", "_law_b", "_law_one", "_law_other", "_law_a", "_law_near", "_law_s"]
def p11 : List Str := ["_law_coils", "_law_told", "_law_ticks", "_law_apart"]
theorem sc11 : FnScope n11 p11 (L2.defScope s11) := ⟨rfl, rfl, rfl, by decide +kernel, rfl, by decide +kernel, by decide +kernel⟩
/-- _law_walk -/
def c11 : List CS := [.asg (.tup [(.name 4), (.name 5), (.name 6)]) (.tup [.dnewK, (.lst true []), (.con (.int 0))]),
  .for_ (.tup [(.name 7), (.name 8)]) (.seq (.var 1)) [.for_ (.name 9) (.range2 (.con (.int 1)) (.bin .Add false (.var 2) (.con (.int 1)))) [.asg (.name 10) (.ite (.cand (.ccmp .IsNot (.var 8) (.con .non)) (.ccmp .GtE (.var 9) (.var 8))) (.var 7) (.tup [])),
    .for_ (.name 11) (.seq (.var 10)) [.asg (.kput (.var 4) (.var 11)) (.bin .Add false (.kget (.var 4) (.var 11) (.lst false [])) (.lst false [(.var 6)]))],
    .for_ (.tup [(.name 12), (.name 13)]) (.seq (.ix (.var 0) (.con (.int 1)))) [.for_ (.tup [(.name 14), (.name 11)]) (.seq (.tup [(.tup [(.var 12), (.var 13)]), (.tup [(.var 13), (.var 12)])])) [.if_ (.ccmp .In (.var 11) (.var 10)) [.setLc 15 (.lc false (.var 16) (.name 16) (.seq (.sl false (.kget (.var 4) (.var 14) (.lst false [])) (.yes (.bin .Sub false (.neg (.con (.int 1))) (.var 3))) .no)) [(.cand (.ccmp .LtE (.bin .Sub false (.var 6) (.var 16)) (.var 3)) (.cor (.ccmp .Lt (.var 16) (.var 6)) (.ccmp .Lt (.var 14) (.var 11))))] [16]),
    .extend (.var 5) (.lc false (.tup [(.var 16), (.var 6), (.var 14), (.var 11)]) (.name 16) (.seq (.var 15)) [] [16])] []]],
    .asg (.name 6) (.bin .Add false (.var 6) (.con (.int 1)))]],
  .ret (.ite (.ccmp .NotEq (.var 5) (.lst false [])) (.ix (.bi .sortL false [(.var 5)]) (.con (.int 0))) (.con .non))]
abbrev s12 : Stmt := topS 14
def n12 : List Str := ["_law_script", "_law_k", "_law_hand_here", "_law_quiet", "_law_told", "_law_rows", "_law_more", "_law_coils", "_law_long", "_law_beats_here", "_law_at", "_law_where", "_law_force", "_law_row", "_law_one", "_law_push"]
def p12 : List Str := ["_law_script"]
theorem sc12 : FnScope n12 p12 (L2.defScope s12) := ⟨rfl, rfl, rfl, by decide +kernel, rfl, by decide +kernel, by decide +kernel⟩
/-- law -/
def c12 : List CS := [.for_ (.name 1) (.range1 (.bi .max2 false [(.con (.int 1)), (.bi .min2 false [(.con (.int 4)), (.bi .len false [(.var 0)])])])) [.asg (.name 2) (.call 5 [(.var 0), (.var 1)]),
    .asg (.tup [(.name 7), (.name 8)]) (.tup [(.call 9 [(.var 2)]), (.bin .Add false (.con (.int 4)) (.call 6 [(.var 2), (.con (.int 13))]))]),
    .asg (.name 3) (.bin .Add false (.con (.int 1)) (.call 6 [(.var 2), (.bin .Sub false (.var 8) (.con (.int 2)))])),
    .par2 9 10 (.call 10 [(.var 2), (.bin .Sub false (.var 8) (.var 3))]) (.call 6 [(.var 2), (.con (.int 12))]),
    .setLc 4 (.lc true (.call 0 [(.var 7), (.var 8), (.var 11), (.var 12)]) (.tup [(.name 11), (.name 12)]) (.seq (.var 9)) [] [11, 12]),
    .if_ (.ccmp .IsNot (.call 4 [(.var 7), (.var 3), (.var 8), (.bi .tuple1 false [(.var 4)])]) (.con .non)) [.ret (.con (.bl false))] [],
    .if_ (.ccmp .IsNot (.call 11 [(.var 7), (.var 4), (.var 8), (.var 3)]) (.con .non)) [.ret (.con (.bl false))] [],
    .asg (.name 5) (.call 1 [(.var 8), (.bi .tuple1 false [(.var 4)])]),
    .if_ (.ccmp .NotEq (.bi .sum1 false [(.lc false (.bi .len false [(.var 13)]) (.name 13) (.seq (.var 5)) [] [13])]) (.bi .sum1 false [(.lc false (.bin .Mult false (.bi .len false [(.ix (.var 14) (.con (.int 0)))]) (.bi .abs false [(.var 15)])) (.tup [(.name 14), (.tup [(.name 11), (.name 15)])]) (.zip2 (.var 4) (.var 9)) [] [14, 11, 15])])) [.ret (.con (.bl false))] [],
    .if_ (.ccmp .NotEq (.call 4 [(.var 7), (.bin .Add false (.var 3) (.con (.int 1))), (.var 8), (.bi .tuple1 false [(.var 4)])]) (.call 11 [(.var 7), (.var 4), (.var 8), (.bin .Add false (.var 3) (.con (.int 1)))])) [.ret (.con (.bl false))] [],
    .asg (.tup [(.name 11), (.name 12)]) (.ix (.var 9) (.bin .Mod false (.var 10) (.bi .len false [(.var 9)]))),
    .asg (.name 6) (.ite (.ccmp .GtE (.var 12) (.con (.int 0))) (.bin .Add false (.bin .Sub false (.var 8) (.var 3)) (.con (.int 1))) (.bin .Sub false (.bin .Sub false (.var 3) (.var 8)) (.con (.int 1)))),
    .asg (.sub (.var 4) (.bin .Mod false (.var 10) (.bi .len false [(.var 9)]))) (.call 0 [(.var 7), (.var 8), (.var 11), (.var 6)]),
    .if_ (.ccmp .NotEq (.bi .repr1 false [(.call 4 [(.var 7), (.var 3), (.var 8), (.bi .tuple1 false [(.var 4)])])]) (.bi .repr1 false [(.call 11 [(.var 7), (.var 4), (.var 8), (.var 3)])])) [.ret (.con (.bl false))] []],
  .ret (.con (.bl true))]
def gls : List Str := []
def bis : List Str := ["abs", "enumerate", "len", "max", "min", "range", "repr", "sorted", "sum", "tuple", "zip"]
def i0 : FI := ⟨"drive", p0, [], false⟩
def i1 : FI := ⟨"switches_at", p1, [], false⟩
def i2 : FI := ⟨"those_against", p2, [], false⟩
def i3 : FI := ⟨"met_at", p3, [], false⟩
def i4 : FI := ⟨"first_against", p4, [], false⟩
def i5 : FI := ⟨"_law_hand", p5, [], false⟩
def i6 : FI := ⟨"_law_take", p6, [], false⟩
def i7 : FI := ⟨"_law_pick", p7, [], false⟩
def i8 : FI := ⟨"_law_side", p8, [], false⟩
def i9 : FI := ⟨"_law_any_coils", p9, [], false⟩
def i10 : FI := ⟨"_law_beats", p10, [], false⟩
def i11 : FI := ⟨"_law_walk", p11, [], false⟩
def i12 : FI := ⟨"law", p12, [], false⟩
def T0 : Tb := ⟨[], gls, bis⟩
def T1 : Tb := ⟨[i0], gls, bis⟩
def T2 : Tb := ⟨[i0, i1], gls, bis⟩
def T3 : Tb := ⟨[i0, i1, i2], gls, bis⟩
def T4 : Tb := ⟨[i0, i1, i2, i3], gls, bis⟩
def T5 : Tb := ⟨[i0, i1, i2, i3, i4], gls, bis⟩
def T6 : Tb := ⟨[i0, i1, i2, i3, i4, i5], gls, bis⟩
def T7 : Tb := ⟨[i0, i1, i2, i3, i4, i5, i6], gls, bis⟩
def T8 : Tb := ⟨[i0, i1, i2, i3, i4, i5, i6, i7], gls, bis⟩
def T9 : Tb := ⟨[i0, i1, i2, i3, i4, i5, i6, i7, i8], gls, bis⟩
def T10 : Tb := ⟨[i0, i1, i2, i3, i4, i5, i6, i7, i8, i9], gls, bis⟩
def T11 : Tb := ⟨[i0, i1, i2, i3, i4, i5, i6, i7, i8, i9, i10], gls, bis⟩
def T12 : Tb := ⟨[i0, i1, i2, i3, i4, i5, i6, i7, i8, i9, i10, i11], gls, bis⟩
def T13 : Tb := ⟨[i0, i1, i2, i3, i4, i5, i6, i7, i8, i9, i10, i11, i12], gls, bis⟩
theorem ok0 : okSs T0 n0 ⟨L2.defScope s0, L2.defScope s0⟩ c0 (L2.defBody s0) = true := by decide +kernel
theorem ok1 : okSs T1 n1 ⟨L2.defScope s1, L2.defScope s1⟩ c1 (L2.defBody s1) = true := by decide +kernel
theorem ok2 : okSs T2 n2 ⟨L2.defScope s2, L2.defScope s2⟩ c2 (L2.defBody s2) = true := by decide +kernel
theorem ok3 : okSs T3 n3 ⟨L2.defScope s3, L2.defScope s3⟩ c3 (L2.defBody s3) = true := by decide +kernel
theorem ok4 : okSs T4 n4 ⟨L2.defScope s4, L2.defScope s4⟩ c4 (L2.defBody s4) = true := by decide +kernel
theorem ok5 : okSs T5 n5 ⟨L2.defScope s5, L2.defScope s5⟩ c5 (L2.defBody s5) = true := by decide +kernel
theorem ok6 : okSs T6 n6 ⟨L2.defScope s6, L2.defScope s6⟩ c6 (L2.defBody s6) = true := by decide +kernel
theorem ok7 : okSs T7 n7 ⟨L2.defScope s7, L2.defScope s7⟩ c7 (L2.defBody s7) = true := by decide +kernel
theorem ok8 : okSs T8 n8 ⟨L2.defScope s8, L2.defScope s8⟩ c8 (L2.defBody s8) = true := by decide +kernel
theorem ok9 : okSs T9 n9 ⟨L2.defScope s9, L2.defScope s9⟩ c9 (L2.defBody s9) = true := by decide +kernel
theorem ok10 : okSs T10 n10 ⟨L2.defScope s10, L2.defScope s10⟩ c10 (L2.defBody s10) = true := by decide +kernel
theorem ok11 : okSs T11 n11 ⟨L2.defScope s11, L2.defScope s11⟩ c11 (L2.defBody s11) = true := by decide +kernel
theorem ok12 : okSs T12 n12 ⟨L2.defScope s12, L2.defScope s12⟩ c12 (L2.defBody s12) = true := by decide +kernel
end Law_k23

namespace Law_k23
open PySem PySem.Spec PyProof.Rows L2 DL
/-! ### data -/
def tupI (r : List Int) : D := .tup (r.map D.int)
abbrev Row := List Int × List Int
abbrev Drv := List Int × Option Int
def prD (p : Int × Int) : D := .tup [.int p.1, .int p.2]
def rowD (p : Row) : D := .tup [tupI p.1, tupI p.2]
def wD (many : Int) (ag : List (Int × Int)) (rows : List Row) : D := .tup [.int many, .tup (ag.map prD), .tup (rows.map rowD)]
def oD : Option Int → D
  | none => .non
  | some k => .int k
def drD (p : Drv) : D := .tup [tupI p.1, oD p.2]
def swAt (p : Drv) (i : Nat) : List Int := match p.2 with
  | none => []
  | some f => if f ≤ 1 + (i : Int) then p.1 else []
def swOf (long : Int) (p : Drv) : List (List Int) := (List.range long.toNat).map (swAt p)
def ab (x : Int) : Int := if x < 0 then -x else x
def due (rows : List Row) (long pl pu : Int) : Drv :=
  if pu = 0 then ([], none) else (if pu > 0 then (rows.getD (pl.fmod rows.length).toNat ([], [])).1 else (rows.getD (pl.fmod rows.length).toNat ([], [])).2, some (long - ab pu + 1))
def rowsOf (rows : List Row) (long : Int) (b : Int × Int) : List (List Int) := List.replicate (long - ab b.2).toNat [] ++ List.replicate (ab b.2).toNat (due rows long b.1 b.2).1
theorem ab_nn (x : Int) : 0 ≤ ab x := by unfold ab; split <;> omega
theorem sw_rows {rows : List Row} {long : Int} {b : Int × Int} (h0 : 0 ≤ long) (h : ab b.2 ≤ long) : swOf long (due rows long b.1 b.2) = rowsOf rows long b := by
  have hn := ab_nn b.2
  unfold swOf rowsOf
  apply List.ext_getElem?
  intro i
  rw [List.getElem?_map]
  by_cases hi : i < long.toNat
  · rw [List.getElem?_range hi]
    by_cases h1 : i < (long - ab b.2).toNat
    · rw [List.getElem?_append_left (by simpa using h1), List.getElem?_replicate, if_pos h1]
      unfold swAt due
      by_cases hz : b.2 = 0
      · simp [hz]
      · simp only [hz, if_false, Option.map_some]
        rw [if_neg (by omega)]
    · rw [List.getElem?_append_right (by simp; omega), List.getElem?_replicate, if_pos (by simp; omega)]
      unfold swAt due
      by_cases hz : b.2 = 0
      · simp [hz]
      · simp only [hz, if_false, Option.map_some]
        rw [if_pos (by omega)]
  · rw [List.getElem?_eq_none (by simp; omega), List.getElem?_eq_none (by simp; omega)]
    rfl
theorem purs_map {α : Type} (mk : α → D) (p : α → PyData) (l : List α) (h : ∀ x ∈ l, pur (mk x) = some (p x)) : purs (l.map mk) = some (l.map p) := by
  induction l with
  | nil => rfl
  | cons x l ih =>
    simp only [List.map_cons, purs, h x (List.mem_cons_self ..), ih fun y hy => h y (List.mem_cons_of_mem _ hy), Option.bind_some, Option.map_some]
theorem dep_map {α : Type} (p : α → PyData) (c : Nat) (l : List α) (h : ∀ x ∈ l, (p x).depth ≤ c) : PyData.depthAll (l.map p) ≤ c := by
  induction l with
  | nil => exact Nat.zero_le _
  | cons x l ih =>
    have := h x (List.mem_cons_self ..)
    have := ih fun y hy => h y (List.mem_cons_of_mem _ hy)
    simp only [List.map_cons, PyData.depthAll]; omega
structure SOk (many : Int) (s : List Int) : Prop where
  len : s.length ≤ 14
  sm : ∀ x ∈ s, 0 ≤ x ∧ x < many
/-- no two that stand against each other, none twice -/
structure Ind (ag : List (Int × Int)) (s : List Int) : Prop where
  ap : ∀ a ∈ s, ∀ b ∈ s, (a, b) ∉ ag
  nd : s.Nodup
structure WOk (many : Int) (ag : List (Int × Int)) (rows : List Row) : Prop where
  m2 : 2 ≤ many
  m12 : many ≤ 12
  alen : ag.length ≤ 24
  asm : ∀ p ∈ ag, 0 ≤ p.1 ∧ p.1 < p.2 ∧ p.2 < many
  r0 : 0 < rows.length
  r1 : rows.length ≤ 24
  rsm : ∀ p ∈ rows, SOk many p.1 ∧ SOk many p.2
  ind : ∀ p ∈ rows, Ind ag p.1 ∧ Ind ag p.2
/-- what the walk is given -/
structure DOk (many long : Int) (ag : List (Int × Int)) (p : Drv) : Prop where
  s : SOk many p.1
  i : Ind ag p.1
structure BOk (most : Int) (bs : List (Int × Int)) : Prop where
  l2 : 2 ≤ bs.length
  len : bs.length ≤ 12
  b : ∀ p ∈ bs, -1000000 ≤ p.1 ∧ p.1 ≤ 1000000 ∧ -most ≤ p.2 ∧ p.2 ≤ most
/-! ### what is looked for -/
section
variable (ag : List (Int × Int)) (ap : Int) (R : List (List Int))
def Ag (a b : Int) : Prop := (a, b) ∈ ag ∨ (b, a) ∈ ag
structure PP (s t : Nat) (a b : Int) : Prop where
  st : s ≤ t
  len : t < R.length
  near : (t : Int) < s + ap + 1
  ia : a ∈ R.getD s []
  ib : b ∈ R.getD t []
  ag : Ag ag a b
  w : s < t ∨ a < b
def PQ (q : List Int) : Prop := ∃ (s t : Nat) (a b : Int), q = [(s : Int), (t : Int), a, b] ∧ PP ag ap R s t a b
def FA (r : D) : Prop := (r = .non ∧ ∀ q, ¬ PQ ag ap R q) ∨ ∃ q, r = tI q ∧ PQ ag ap R q ∧ ∀ q', PQ ag ap R q' → q ≤ q'
structure MM (here there : List Int) (same : Bool) (a b : Int) : Prop where
  ia : a ∈ here
  ag : Ag ag a b
  ib : b ∈ there
  w : a < b ∨ same = false
def MA (here there : List Int) (same : Bool) (r : D) : Prop := (r = .non ∧ ∀ a b, ¬ MM ag here there same a b) ∨ ∃ a b, r = .tup [.int a, .int b] ∧ MM ag here there same a b ∧ ∀ a' b', MM ag here there same a' b' → a < a' ∨ (a = a' ∧ b ≤ b')
end
theorem quad_le {s t a b s' t' a' b' : Int} (h : s < s' ∨ (s = s' ∧ (t < t' ∨ (t = t' ∧ (a < a' ∨ (a = a' ∧ b ≤ b')))))) : [s, t, a, b] ≤ [s', t', a', b'] := by
  simp only [List.cons_le_cons_iff, List.le_refl, and_true]
  omega
/-- those that stand against each switch -/
structure Ths (S : DStore) (d : Nat) (many : Int) (ag : List (Int × Int)) (kvs : List (L2.Key × D)) : Prop where
  at' : S[d]? = some (.dkk kvs)
  v : ∀ k : Int, 0 ≤ k → k < many → ∃ (p : Nat) (zs : List Int), valD kvs (.inl k) = some (.ref p) ∧ S[p]? = some (.lst (zs.map D.int)) ∧ zs.length ≤ 100 ∧ zs.Pairwise (· ≤ ·) ∧ ∀ x, x ∈ zs ↔ Ag ag k x
theorem Ths.keep {S S' : DStore} {d : Nat} {many : Int} {ag : List (Int × Int)} {kvs : List (L2.Key × D)} (h : Ths S d many ag kvs) (k : Kp S S') : Ths S' d many ag kvs :=
  ⟨k _ _ h.at', fun x h0 h1 => let ⟨p, zs, a, b, c⟩ := h.v x h0 h1; ⟨p, zs, a, k _ _ b, c⟩⟩
/-! ### promises -/
def spDrv (ds : List D) (S : DStore) (Q : QE) : Prop := ∃ many ag rows long pl pu, ds = [wD many ag rows, .int long, .int pl, .int pu] ∧ 0 < rows.length ∧ rows.length ≤ 24 ∧ -1000000000 ≤ pl ∧ pl ≤ 1000000000 ∧ Q (drD (due rows long pl pu)) S
theorem spDrv_len : ∀ ds S Q, spDrv ds S Q → ds.length = 4 := by rintro _ _ _ ⟨_, _, _, _, _, _, rfl, _⟩; rfl
def spSw (ds : List D) (S : DStore) (Q : QE) : Prop := ∃ long, ∃ dr : List Drv, ds = [.int long, .tup (dr.map drD)] ∧ 0 ≤ long ∧ long ≤ 100 ∧ dr.length ≤ 100 ∧ ∀ S', Kp S S' → Q (.tup ((dr.flatMap (swOf long)).map tupI)) S'
theorem spSw_len : ∀ ds S Q, spSw ds S Q → ds.length = 2 := by rintro _ _ _ ⟨_, _, rfl, _⟩; rfl
def spThose (ds : List D) (S : DStore) (Q : QE) : Prop := ∃ many ag rows, ds = [wD many ag rows] ∧ WOk many ag rows ∧ ∀ d kvs S', Ths S' d many ag kvs → Kp S S' → Q (.ref d) S'
theorem spThose_len : ∀ ds S Q, spThose ds S Q → ds.length = 1 := by rintro _ _ _ ⟨_, _, _, rfl, _⟩; rfl
def spMet (ds : List D) (S : DStore) (Q : QE) : Prop := ∃ d many ag kvs here there same, ds = [.ref d, tupI here, tupI there, .bl same] ∧ Ths S d many ag kvs ∧ SOk many here ∧ ∀ r, MA ag here there same r → Q r S
theorem spMet_len : ∀ ds S Q, spMet ds S Q → ds.length = 4 := by rintro _ _ _ ⟨_, _, _, _, _, _, _, rfl, _⟩; rfl
def spFirstA (ds : List D) (S : DStore) (Q : QE) : Prop := ∃ many ag rows ap long, ∃ dr : List Drv, ds = [wD many ag rows, .int ap, .int long, .tup (dr.map drD)] ∧ WOk many ag rows ∧ 0 ≤ long ∧ long ≤ 100 ∧ 0 ≤ ap ∧ ap ≤ 1000 ∧ dr.length ≤ 100 ∧ (∀ p ∈ dr, SOk many p.1) ∧
  ∀ r S', Kp S S' → FA ag ap (dr.flatMap (swOf long)) r → Q r S'
theorem spFirstA_len : ∀ ds S Q, spFirstA ds S Q → ds.length = 4 := by rintro _ _ _ ⟨_, _, _, _, _, _, rfl, _⟩; rfl
def spSide (ds : List D) (S : DStore) (Q : QE) : Prop := ∃ n T many, ∃ ag : List (Int × Int), ds = [.ref n, .int many, .tup (ag.map prD)] ∧ (∀ p ∈ ag, p.1 < p.2) ∧ Pot n T S ∧ T < 1000000 ∧ 1 ≤ many ∧ many ≤ 13 ∧ ∀ s S', SOk many s → Ind ag s → Pot n (T + 20) S' → Fr n S S' → Q (tupI s) S'
theorem spSide_len : ∀ ds S Q, spSide ds S Q → ds.length = 3 := by rintro _ _ _ ⟨_, _, _, _, rfl, _⟩; rfl
def spCoils (ds : List D) (S : DStore) (Q : QE) : Prop := ∃ n T, ds = [.ref n] ∧ Pot n T S ∧ T < 100000 ∧ ∀ many ag rows S', WOk many ag rows → Pot n (T + 3000) S' → Fr n S S' → Q (wD many ag rows) S'
theorem spCoils_len : ∀ ds S Q, spCoils ds S Q → ds.length = 1 := by rintro _ _ _ ⟨_, _, rfl, _⟩; rfl
def spBeats (ds : List D) (S : DStore) (Q : QE) : Prop := ∃ n T most, ds = [.ref n, .int most] ∧ Pot n T S ∧ T < 100000 ∧ 1 ≤ most ∧ most ≤ 100 ∧ ∀ p bs S', BOk most bs → S'[p]? = some (.lst (bs.map prD)) → Pot n (T + 200) S' → Fr n S S' → S.length ≤ p → Q (.ref p) S'
theorem spBeats_len : ∀ ds S Q, spBeats ds S Q → ds.length = 2 := by rintro _ _ _ ⟨_, _, _, rfl, _⟩; rfl
def spWalk (ds : List D) (S : DStore) (Q : QE) : Prop := ∃ many ag rows p long ap, ∃ dr : List Drv, ds = [wD many ag rows, .ref p, .int long, .int ap] ∧ S[p]? = some (.lst (dr.map drD)) ∧ WOk many ag rows ∧ 0 ≤ long ∧ long ≤ 16 ∧ 0 ≤ ap ∧ ap ≤ 16 ∧ dr.length ≤ 12 ∧ (∀ p ∈ dr, DOk many long ag p) ∧
  ∀ r S', Kp S S' → FA ag ap (dr.flatMap (swOf long)) r → Q r S'
theorem spWalk_len : ∀ ds S Q, spWalk ds S Q → ds.length = 4 := by rintro _ _ _ ⟨_, _, _, _, _, _, _, rfl, _⟩; rfl
def G : Fns := ⟨fun j => match j with
  | 0 => spDrv | 1 => spSw | 2 => spThose | 3 => spMet | 4 => spFirstA | 5 => spHand | 6 => spTake | 7 => spPick | 8 => spSide | 9 => spCoils | 10 => spBeats | 11 => spWalk | _ => spLaw, fun _ => .non⟩
theorem G0 : G.fn 0 = spDrv := rfl
theorem G1 : G.fn 1 = spSw := rfl
theorem G2 : G.fn 2 = spThose := rfl
theorem G3 : G.fn 3 = spMet := rfl
theorem G4 : G.fn 4 = spFirstA := rfl
theorem G5 : G.fn 5 = spHand := rfl
theorem G6 : G.fn 6 = spTake := rfl
theorem G7 : G.fn 7 = spPick := rfl
theorem G8 : G.fn 8 = spSide := rfl
theorem G9 : G.fn 9 = spCoils := rfl
theorem G10 : G.fn 10 = spBeats := rfl
theorem G11 : G.fn 11 = spWalk := rfl
theorem len0 : ∀ ds S Q, G.fn 0 ds S Q → ds.length = p0.length := spDrv_len
theorem len1 : ∀ ds S Q, G.fn 1 ds S Q → ds.length = p1.length := spSw_len
theorem len2 : ∀ ds S Q, G.fn 2 ds S Q → ds.length = p2.length := spThose_len
theorem len3 : ∀ ds S Q, G.fn 3 ds S Q → ds.length = p3.length := spMet_len
theorem len4 : ∀ ds S Q, G.fn 4 ds S Q → ds.length = p4.length := spFirstA_len
theorem len5 : ∀ ds S Q, G.fn 5 ds S Q → ds.length = p5.length := spHand_len
theorem len6 : ∀ ds S Q, G.fn 6 ds S Q → ds.length = p6.length := spTake_len
theorem len7 : ∀ ds S Q, G.fn 7 ds S Q → ds.length = p7.length := spPick_len
theorem len8 : ∀ ds S Q, G.fn 8 ds S Q → ds.length = p8.length := spSide_len
theorem len9 : ∀ ds S Q, G.fn 9 ds S Q → ds.length = p9.length := spCoils_len
theorem len10 : ∀ ds S Q, G.fn 10 ds S Q → ds.length = p10.length := spBeats_len
theorem len11 : ∀ ds S Q, G.fn 11 ds S Q → ds.length = p11.length := spWalk_len
theorem len12 : ∀ ds S Q, spLaw ds S Q → ds.length = p12.length := by rintro _ _ _ ⟨_, rfl, _⟩; rfl
theorem body5 : ∀ ds S Q, G.fn 5 ds S Q → wpSs G c5 (startD n5.length ds) S { nx := fun _ S' => Q .non S', rt := Q } := hand_ok
theorem body6 : ∀ ds S Q, G.fn 6 ds S Q → wpSs G c6 (startD n6.length ds) S { nx := fun _ S' => Q .non S', rt := Q } := take_ok
theorem body7 : ∀ ds S Q, G.fn 7 ds S Q → wpSs G c7 (startD n7.length ds) S { nx := fun _ S' => Q .non S', rt := Q } := pick_ok G6
theorem at_row {rows : List Row} {pl : Int} (h : 0 < rows.length) : atI (rows.map rowD) (pl.fmod rows.length) = some (rowD (rows.getD (pl.fmod rows.length).toNat ([], []))) := by
  have h1 := fmod_pos (a := pl) (b := (rows.length : Int)) (by omega)
  have hlt : (pl.fmod rows.length).toNat < rows.length := by omega
  refine atI_nat' h1.1 ?_
  rw [List.getElem?_map, List.getD_eq_getElem?_getD, List.getElem?_eq_getElem hlt]; rfl
theorem body0 : ∀ ds S Q, G.fn 0 ds S Q → wpSs G c0 (startD n0.length ds) S { nx := fun _ S' => Q .non S', rt := Q } := by
  rintro ds S Q ⟨many, ag, rows, long, pl, pu, rfl, h0, h24, hp0, hp1, hQ⟩
  unfold c0 n0 wD
  simp_arith only [List.length_map]
  refine if_i (fun hz => ?_) fun hz => ?_
  · have e : drD (due rows long pl pu) = .tup [.tup [], .non] := by unfold due drD; rw [if_pos hz]; rfl
    rw [e] at hQ; exact hQ
  · refine ⟨by omega, ?_⟩
    (try simp_arith only [at_row h0])
    unfold rowD
    (try simp_arith only [])
    refine ⟨trivial, ?_⟩
    unfold due drD at hQ
    rw [if_neg hz] at hQ
    refine if_i (fun hc => ?_) fun hc => ?_
    · rw [if_pos hc] at hQ; exact hQ
    · rw [if_neg hc] at hQ; exact hQ
theorem sw_take {dr : List Drv} {long : Int} {k : Nat} {x : Drv} (h : dr[k]? = some x) : (dr.take (k + 1)).flatMap (swOf long) = (dr.take k).flatMap (swOf long) ++ swOf long x := by
  rw [List.take_add_one, h, List.flatMap_append]
  simp
theorem sw_len {long : Int} (h0 : 0 ≤ long) (h : long ≤ 100) : ∀ dr : List Drv, (dr.flatMap (swOf long)).length ≤ 100 * dr.length
  | [] => by simp
  | x :: dr => by
    have := sw_len h0 h dr
    rw [List.flatMap_cons, List.length_append, List.length_cons]
    have : (swOf long x).length ≤ 100 := by unfold swOf; simp; omega
    omega
theorem body1 : ∀ ds S Q, G.fn 1 ds S Q → wpSs G c1 (startD n1.length ds) S { nx := fun _ S' => Q .non S', rt := Q } := by
  rintro ds S Q ⟨long, dr, rfl, l0, l1, hd, hQ⟩
  unfold c1 n1
  simp_arith only []
  have ks : ∀ {S' : DStore} {c : Cell}, Kp S S' → Kp S (S'.set S.length c) := fun {S' c} h j d hj => by
    have := (List.getElem?_eq_some_iff.mp hj).1
    rw [List.getElem?_set_ne (by omega)]; exact h j d hj
  refine walk_list (fun k ρ S' => ∃ r3 r4 r5, ρ = [some (.int long), some (.tup (dr.map drD)), some (.ref S.length), r3, r4, r5] ∧ Kp S S' ∧ S'[S.length]? = some (.lst (((dr.take k).flatMap (swOf long)).map tupI)))
    ⟨_, _, _, rfl, fun j c hj => by rw [List.getElem?_append_left (List.getElem?_eq_some_iff.mp hj).1]; exact hj, by simp⟩ (fun _ _ _ _ => trivial) (fun k x ρ S' hx hp => ?_) (fun ρ S' hp => ?_)
  · obtain ⟨r3, r4, r5, rfl, hK, hq⟩ := hp
    have hk := (List.getElem?_eq_some_iff.mp hx).1
    rw [List.length_map] at hk
    obtain ⟨y, hy⟩ : ∃ y, dr[k]? = some y := ⟨_, List.getElem?_eq_getElem hk⟩
    rw [List.getElem?_map, hy] at hx
    cases hx
    have hsl := sw_len l0 l1 (dr.take k)
    rw [List.length_take] at hsl
    rw [sw_take hy]
    have ey : drD y = D.tup [tupI y.1, oD y.2] := rfl
    rw [ey]
    unfold DL.forTurn
    (try simp_arith only [])
    refine ⟨trivial, ?_⟩
    (repeat (refine And.intro (by first | omega | exact DL.mul_small_left (by omega) (by omega) | exact DL.mul_small_right (by omega) (by omega) | exact DL.div_om (by omega) (by omega) (by omega) | exact DL.cpow1 (by omega) (by omega) | exact ⟨by omega, by omega⟩ | exact DL.len_le (by (try simp only [List.length_map, List.length_append, List.length_cons, List.length_nil]); omega) | exact DL.len_lt (by (try simp only [List.length_map, List.length_append, List.length_cons, List.length_nil]); omega) | trivial | decide) ?_))
    refine walk_range (fun i ρ S' => ∃ r5, ρ = [some (.int long), some (.tup (dr.map drD)), some (.ref S.length), some (tupI y.1), some (oD y.2), r5] ∧ Kp S S' ∧ S'[S.length]? = some (.lst ((((dr.take k).flatMap (swOf long)) ++ (List.range i).map (swAt y)).map tupI)))
      ⟨_, rfl, hK, by simpa using hq⟩ (fun _ _ _ _ => trivial) (fun i ρ S' hi hp => ?_) (fun ρ S' hp => ?_)
    · obtain ⟨r5, rfl, hK, hq⟩ := hp
      have fin : ∀ S2 : DStore, S2 = S'.set S.length (.lst ((((dr.take k).flatMap (swOf long)) ++ (List.range i).map (swAt y)).map tupI ++ [tupI (swAt y i)])) → ∃ r5, [some (D.int long), some (.tup (dr.map drD)), some (.ref S.length), some (tupI y.1), some (oD y.2), some (.int (1 + (i : Int)))] = [some (.int long), some (.tup (dr.map drD)), some (.ref S.length), some (tupI y.1), some (oD y.2), r5] ∧ Kp S S2 ∧ S2[S.length]? = some (.lst ((((dr.take k).flatMap (swOf long)) ++ (List.range (i + 1)).map (swAt y)).map tupI)) := fun S2 e => by
        subst e
        refine ⟨_, rfl, ks hK, ?_⟩
        rw [List.getElem?_set_self (List.getElem?_eq_some_iff.mp hq).1, List.range_succ, List.map_append, List.map_append, List.map_append, List.map_append]
        simp
      have hz : ((((dr.take k).flatMap (swOf long)) ++ (List.range i).map (swAt y)).map tupI).length < sizeLine := by
        rw [List.length_map, List.length_append, List.length_map, List.length_range]
        exact Nat.lt_of_le_of_lt (show _ ≤ 20000 by omega) (by decide)
      unfold DL.forTurn
      (try simp_arith only [])
      refine ⟨lat hq, ?_⟩
      obtain ⟨ys, o⟩ := y
      cases o with
      | none =>
        simp only [oD]
        (try simp_arith only [])
        exact ⟨_, hq, hz, fin _ rfl⟩
      | some f =>
        simp only [oD]
        (try simp_arith only [])
        rw [if_pos (show DL.isNon (.int f) = false from rfl)]
        refine if_i (fun h => ?_) fun h => ?_
        · have e : swAt (ys, some f) i = ys := by unfold swAt; simp only; rw [if_pos h]
          rw [e] at fin
          exact ⟨_, hq, hz, fin _ rfl⟩
        · have e : swAt (ys, some f) i = [] := by unfold swAt; simp only; rw [if_neg h]
          rw [e] at fin
          exact ⟨_, hq, hz, fin _ rfl⟩
    · obtain ⟨r5, rfl, hK, hq⟩ := hp
      simp only [s_nilA]
      refine ⟨_, _, _, rfl, hK, ?_⟩
      rw [show (long + 1 - 1).toNat = long.toNat by omega] at hq
      exact hq
  · obtain ⟨r3, r4, r5, rfl, hK, hq⟩ := hp
    rw [List.length_map, List.take_length] at hq
    (try simp_arith only [])
    exact ⟨_, by rw [hq]; rfl, hQ _ hK⟩
theorem mapM_int : ∀ xs : List Int, (xs.map D.int).mapM inOf = some xs
  | [] => rfl
  | x :: xs => by
    rw [List.map_cons, List.mapM_cons, mapM_int xs]; rfl
theorem cl_map {α : Type} (p : α → PyData) (l : List α) (h : ∀ x ∈ l, (p x).canLay0 = true) : PyData.canLayAll0 (l.map p) = true := by
  induction l with
  | nil => rfl
  | cons x l ih => simp only [List.map_cons, PyData.canLayAll0, h x (List.mem_cons_self ..), ih fun y hy => h y (List.mem_cons_of_mem _ hy)]; rfl
def prP (p : Int × Int) : PyData := .tuple [.int p.1, .int p.2]
theorem lay_i : ∀ xs : List Int, PyData.canLayAll0 (xs.map PyData.int) = true := fun xs => cl_map PyData.int xs fun _ _ => rfl
theorem eqv_nilL (ps : List PyData) : PyData.eqvAll ps [] = ps.isEmpty := by
  cases ps with
  | nil => simp only [PyData.eqvAll]; rfl
  | cons => simp only [PyData.eqvAll]; rfl
theorem eq_nilL {S : DStore} {ds : List D} {ps : List PyData} {QB : Bool → Prop} (e : purs ds = some ps) (hl : PyData.canLayAll0 ps = true) (hd : PyData.depthAll ps ≤ 50) (he : ps.isEmpty = ds.isEmpty) (q : QB ds.isEmpty) : cmpD .Eq S (.lst ds) (.lst []) QB := by
  refine ⟨.list ps, .list [], ?_, rfl, ?_, rfl, ?_⟩
  · show (purs _).map _ = _
    rw [e]; rfl
  · unfold SeqAt.shaped
    simp only [PyData.canLay0, hl, Bool.true_and, decide_eq_true_eq]
    show PyData.depthAll _ + 1 ≤ 64
    omega
  · simp only [PyData.eqv]
    rw [eqv_nilL, he]
    exact q
theorem nil_ints {S : DStore} {xs : List Int} {QB : Bool → Prop} (q : QB xs.isEmpty) : cmpD .Eq S (.lst (xs.map D.int)) (.lst []) QB :=
  eq_nilL (purs_map D.int PyData.int xs fun _ _ => rfl) (lay_i xs) (Nat.le_trans (dep_map PyData.int 0 xs fun _ _ => Nat.le_refl _) (by decide)) (by cases xs <;> rfl) (by cases xs <;> exact q)
theorem any_pr (x y : Int) (ag : List (Int × Int)) : ((ag.map prP).any fun z => PyData.eqv z (.tuple [.int x, .int y])) = decide ((x, y) ∈ ag) := by
  induction ag with
  | nil => rfl
  | cons p ag ih =>
    rw [List.map_cons, List.any_cons, ih]
    obtain ⟨a, b⟩ := p
    have e : PyData.eqv (prP (a, b)) (.tuple [.int x, .int y]) = decide ((x, y) = (a, b)) := by
      rw [Bool.eq_iff_iff]
      simp [prP, PyData.eqv, PyData.eqvAll]
      constructor <;> rintro ⟨rfl, rfl⟩ <;> exact ⟨rfl, rfl⟩
    rw [e]
    by_cases h : (x, y) = (a, b)
    · rw [decide_eq_true h, Bool.true_or]
      exact (decide_eq_true (h ▸ List.mem_cons_self ..)).symm
    · rw [decide_eq_false h, Bool.false_or]
      exact decide_eq_decide.mpr ⟨List.mem_cons_of_mem _, fun h2 => (List.mem_cons.mp h2).resolve_left h⟩
theorem in_ag {S : DStore} {x y : Int} {ag : List (Int × Int)} {Q : Bool → Prop} (h : Q (decide ((x, y) ∈ ag))) : cmpD .In S (.tup [.int x, .int y]) (.tup (ag.map prD)) Q := by
  refine .inr (.inl ⟨.tuple [.int x, .int y], ag.map prD, ag.map prP, rfl, rfl, purs_map prD prP ag fun _ _ => rfl, rfl, ?_, Nat.le_of_ble_eq_true rfl, by rw [any_pr]; exact h⟩)
  have h1 := cl_map prP ag fun _ _ => rfl
  have h2 := dep_map prP 10 ag fun _ _ => Nat.le_of_ble_eq_true rfl
  unfold SeqAt.shaped
  simp only [PyData.canLay0, h1, Bool.true_and, decide_eq_true_eq]
  show PyData.depthAll _ + 1 ≤ 64
  omega
theorem inV_ints (x : Int) : ∀ xs : List Int, inV (toV (.int x)) ((xs.map D.int).map toV) = decide (x ∈ xs)
  | [] => rfl
  | y :: xs => by
    have e : inV (toV (.int x)) (((y :: xs).map D.int).map toV) = ((y == x) || inV (toV (.int x)) ((xs.map D.int).map toV)) := rfl
    rw [e, inV_ints x xs]
    by_cases h1 : y = x
    · subst h1; simp
    · have h2 : ¬ x = y := fun z => h1 z.symm
      rw [beq_false_of_ne h1, Bool.false_or]
      exact decide_eq_decide.mpr ⟨List.mem_cons_of_mem _, fun h => (List.mem_cons.mp h).resolve_left h2⟩
theorem ni_ints {S : DStore} {x : Int} {q : Nat} {xs : List Int} {Q : Bool → Prop} (hq : S[q]? = some (.lst (xs.map D.int))) (h : Q (!decide (x ∈ xs))) : cmpD .NotIn S (.int x) (.ref q) Q := by
  refine ⟨xs.map D.int, by simp only [seqOf, lstOf, hq], rfl, ?_, by rw [inV_ints]; exact h⟩
  simp [flatD]
theorem body8 : ∀ ds S Q, G.fn 8 ds S Q → wpSs G c8 (startD n8.length ds) S { nx := fun _ S' => Q .non S', rt := Q } := by
  rintro ds S Q ⟨n, T, many, ag, rfl, hag, hP, hT, m1, m13, hQ⟩
  unfold c8 n8
  simp_arith only [G6]
  refine takeP hP (by omega) (by omega) (by omega) fun v S1 hv0 hv1 hP hF _ => ?_
  have hn := hP.lt
  have hle := hF.len
  (try simp_arith only [])
  (repeat (refine And.intro (by first | omega | exact DL.mul_small_left (by omega) (by omega) | exact DL.mul_small_right (by omega) (by omega) | exact DL.div_om (by omega) (by omega) (by omega) | exact DL.cpow1 (by omega) (by omega) | exact ⟨by omega, by omega⟩ | exact DL.len_le (by (try simp only [List.length_map, List.length_append, List.length_cons, List.length_nil]); omega) | exact DL.len_lt (by (try simp only [List.length_map, List.length_append, List.length_cons, List.length_nil]); omega) | trivial | decide) ?_))
  refine walk_range (fun i ρ S' => ∃ (xs : List Int) (r4 r5 : Option D), ρ = [some (.ref n), some (.int many), some (.tup (ag.map prD)), some (.ref S1.length), r4, r5, none] ∧ S'[S1.length]? = some (.lst (xs.map D.int)) ∧ xs.length ≤ 1 + i ∧ (∀ x ∈ xs, 0 ≤ x ∧ x < many) ∧ Ind ag xs ∧ Pot n (T + 1 + i) S' ∧ Fr n S S')
    ⟨[v], none, none, rfl, by simp, by simp, fun x hx => by rw [List.mem_singleton.mp hx]; exact ⟨hv0, by omega⟩, ⟨fun a ha b hb h => by
      rw [List.mem_singleton.mp ha, List.mem_singleton.mp hb] at h
      have := hag _ h
      simp only at this
      omega, by simp⟩, (hP.app).mono (by omega), hF.trans .app⟩ (fun _ _ _ _ => trivial) (fun i ρ S' hi hp => ?_) (fun ρ S' hp => ?_)
  · obtain ⟨xs, r4, r5, rfl, hq, hl, hx, hI, hP, hF⟩ := hp
    unfold DL.forTurn
    (try simp_arith only [Int.zero_add])
    refine ⟨_, hq, gather_inv (fun j acc S2 => S2 = S' ∧ acc.length ≤ j ∧ ∃ ys : List Int, acc = ys.map D.int ∧ (ys = [] → ∀ y ∈ xs.take j, ((if (i : Int) < y then (i : Int) else y), (if (i : Int) > y then (i : Int) else y)) ∉ ag)) (by rw [List.length_map]; exact len_le (by omega)) ⟨rfl, Nat.le_refl _, [], rfl, by simp⟩ (fun j acc S2 h => ⟨by rw [h.1]; exact hq, h.2.1⟩) (fun j x acc S2 hx2 h N h1 h2 => ?_) (fun acc S2 h => ?_)⟩
    · obtain ⟨rfl, hlen, ys, rfl, hys⟩ := h
      rw [List.getElem?_map] at hx2
      obtain ⟨y, hy, rfl⟩ := Option.map_eq_some_iff.mp hx2
      have et : xs.take (j + 1) = xs.take j ++ [y] := by rw [List.take_add_one, hy]; rfl
      unfold lcTurn
      (try simp_arith only [])
      refine in_ag ?_
      by_cases hin : ((if (i : Int) < y then (i : Int) else y), (if (i : Int) > y then (i : Int) else y)) ∈ ag
      · rw [decide_eq_true hin]
        (try simp_arith only [])
        exact h1 _ _ ⟨rfl, by simp at hlen ⊢; omega, ys ++ [y], by simp, by simp⟩
      · rw [decide_eq_false hin]
        (try simp_arith only [])
        refine h2 _ ⟨rfl, by omega, ys, rfl, fun e z hz => ?_⟩
        rw [et] at hz
        rcases List.mem_append.mp hz with hz | hz
        · exact hys e z hz
        · rw [List.mem_singleton.mp hz]; exact hin
    · obtain ⟨rfl, _, ys, rfl, hys⟩ := h
      rw [List.length_map, List.take_length] at hys
      (try simp_arith only [])
      have skip : ∀ (r4 r5 : Option D) (S3 : DStore), S3[S1.length]? = some (.lst (xs.map D.int)) → Pot n (T + 1 + i + 1) S3 → Fr n S S3 → ∃ (xs : List Int) (r4' r5' : Option D), [some (.ref n), some (.int many), some (.tup (ag.map prD)), some (.ref S1.length), r4, r5, none] = [some (.ref n), some (.int many), some (.tup (ag.map prD)), some (.ref S1.length), r4', r5', none] ∧ S3[S1.length]? = some (.lst (xs.map D.int)) ∧ xs.length ≤ 1 + (i + 1) ∧ (∀ x ∈ xs, 0 ≤ x ∧ x < many) ∧ Ind ag xs ∧ Pot n (T + 1 + ((i + 1 : Nat) : Int)) S3 ∧ Fr n S S3 := fun r4 r5 S3 h1 h2 h3 => ⟨xs, r4, r5, rfl, h1, by omega, hx, hI, h2.mono (by omega), h3⟩
      refine ni_ints hq ?_
      by_cases hin : (i : Int) ∈ xs
      · rw [decide_eq_true hin]
        (try simp_arith only [])
        exact skip _ _ _ hq (hP.mono (by omega)) hF
      · rw [decide_eq_false hin]
        (try simp_arith only [])
        refine nil_ints (QB := fun b => _) ?_
        cases hye : ys.isEmpty with
        | false =>
          (try simp_arith only [])
          exact skip _ _ _ hq (hP.mono (by omega)) hF
        | true =>
          replace hys := hys (List.isEmpty_iff.mp hye)
          (try simp_arith only [G6])
          refine takeP hP (by omega) (by omega) (by omega) fun u S3 _ _ hP hF2 _ => ?_
          replace hq := hF2.get (by omega) hq
          replace hF := hF.trans hF2
          (try simp_arith only [])
          refine if_i (fun _ => ?_) fun _ => ?_
          · (try simp_arith only [])
            refine ⟨lat hq, _, hq, by rw [List.length_map]; exact len_lt (by omega), xs ++ [(i : Int)], _, _, rfl, ?_, by simp; omega, fun x h => ?_, ⟨fun a ha b hb hab => ?_, ?_⟩, ?_, ?_⟩
            · rw [List.getElem?_set_self (List.getElem?_eq_some_iff.mp hq).1]; simp
            · rcases List.mem_append.mp h with h | h
              · exact hx x h
              · rw [List.mem_singleton.mp h]; exact ⟨by omega, by omega⟩
            · have hlt := hag _ hab
              simp only at hlt
              rcases List.mem_append.mp ha with ha | ha
              · rcases List.mem_append.mp hb with hb | hb
                · exact hI.ap a ha b hb hab
                · rw [List.mem_singleton.mp hb] at hab hlt
                  have := hys a ha
                  rw [if_neg (by omega), if_pos (by omega)] at this
                  exact this hab
              · rw [List.mem_singleton.mp ha] at hab hlt
                rcases List.mem_append.mp hb with hb | hb
                · have := hys b hb
                  rw [if_pos (by omega), if_neg (by omega)] at this
                  exact this hab
                · rw [List.mem_singleton.mp hb] at hlt
                  omega
            · rw [List.nodup_append]
              refine ⟨hI.nd, by simp, fun a ha b hb e => ?_⟩
              rw [List.mem_singleton.mp hb] at e
              exact hin (e ▸ ha)
            · exact (hP.set (by omega)).mono (by omega)
            · exact hF.set hle
          · (try simp_arith only [])
            exact skip _ _ _ hq (hP.mono (by omega)) hF
  · obtain ⟨xs, r4, r5, rfl, hq, hl, hx, hI, hP, hF⟩ := hp
    (try simp_arith only [])
    refine .inl ⟨xs.map D.int, xs, by simp only [lstOf, hq], mapM_int xs, fun ns' h1 h2 => ?_⟩
    simp only [newL]
    (try simp_arith only [])
    refine hQ ns' S' ⟨?_, fun x h => hx x (h1.mem_iff.mp h)⟩ ⟨fun a ha b hb => hI.ap a (h1.mem_iff.mp ha) b (h1.mem_iff.mp hb), h1.nodup_iff.mpr hI.nd⟩ (hP.mono (by omega)) hF
    rw [h1.length_eq]; omega
theorem ex_map {α β : Type} (f : α → β) (P : α → Prop) : ∀ l : List β, (∀ y ∈ l, ∃ x, y = f x ∧ P x) → ∃ xs : List α, l = xs.map f ∧ ∀ x ∈ xs, P x
  | [], _ => ⟨[], rfl, fun x h => absurd h (by simp)⟩
  | y :: l, h => by
    obtain ⟨x, e, p⟩ := h y (List.mem_cons_self ..)
    obtain ⟨xs, e2, p2⟩ := ex_map f P l fun z hz => h z (List.mem_cons_of_mem _ hz)
    refine ⟨x :: xs, by rw [e, e2]; rfl, fun z hz => ?_⟩
    rcases List.mem_cons.mp hz with rfl | hz
    · exact p
    · exact p2 z hz
theorem body9 : ∀ ds S Q, G.fn 9 ds S Q → wpSs G c9 (startD n9.length ds) S { nx := fun _ S' => Q .non S', rt := Q } := by
  rintro ds S Q ⟨n, T, rfl, hP, hT, hQ⟩
  unfold c9 n9
  refine ss_split 2 (fun ρ S' => ∃ (many : Int) (kvs : List (List L2.Key × D)) (q1 q2 : Nat) (r1 r6 r7 : Option D), ρ = [some (.ref n), r1, none, some (.int many), some (.ref q1), some (.ref q2), r6, r7] ∧ 2 ≤ many ∧ many ≤ 12 ∧ S'[q1]? = some (.dct kvs) ∧ S'[q2]? = some (.lst []) ∧ kvs.length ≤ 24 ∧ (∀ p ∈ kvs, ∃ x y : Int, p.1 = [Sum.inl x, Sum.inl y] ∧ 0 ≤ x ∧ x < y ∧ y < many) ∧ Pot n (T + 52) S' ∧ Fr n S S' ∧ n < q1 ∧ q1 < q2 ∧ S.length ≤ q1) (fun N hN => ?_) ?_
  · simp_arith only [G6]
    refine takeP hP (by omega) (by omega) (by omega) fun v S1 hv0 hv1 hP hF _ => ?_
    have hn := hP.lt
    have hle := hF.len
    (try simp_arith only [G6])
    (repeat (refine And.intro (by first | omega | exact DL.mul_small_left (by omega) (by omega) | exact DL.mul_small_right (by omega) (by omega) | exact DL.div_om (by omega) (by omega) (by omega) | exact DL.cpow1 (by omega) (by omega) | exact ⟨by omega, by omega⟩ | exact DL.len_le (by (try simp only [List.length_map, List.length_append, List.length_cons, List.length_nil]); omega) | exact DL.len_lt (by (try simp only [List.length_map, List.length_append, List.length_cons, List.length_nil]); omega) | trivial | decide) ?_))
    refine takeP (hP.app.app) (by omega) (by omega) (by omega) fun w S2 hw0 hw1 hP hF2 _ => ?_
    have g1 := hF2.get (i := S1.length) (c := .dct []) (by omega) (by simp)
    have g2 := hF2.get (i := S1.length + 1) (c := .lst []) (by omega) (by simp)
    replace hF := (hF.trans (Fr.app (cs := [.dct []]))).trans ((Fr.app (cs := [.lst []])).trans hF2)
    (try simp_arith only [])
    (repeat (refine And.intro (by first | omega | exact DL.mul_small_left (by omega) (by omega) | exact DL.mul_small_right (by omega) (by omega) | exact DL.div_om (by omega) (by omega) (by omega) | exact DL.cpow1 (by omega) (by omega) | exact ⟨by omega, by omega⟩ | exact DL.len_le (by (try simp only [List.length_map, List.length_append, List.length_cons, List.length_nil]); omega) | exact DL.len_lt (by (try simp only [List.length_map, List.length_append, List.length_cons, List.length_nil]); omega) | trivial | decide) ?_))
    refine walk_range (fun i ρ S' => ∃ (kvs : List (List L2.Key × D)) (r1 r6 r7 : Option D), ρ = [some (.ref n), r1, none, some (.int (2 + v)), some (.ref S1.length), some (.ref (S1.length + 1)), r6, r7] ∧ S'[S1.length]? = some (.dct kvs) ∧ S'[S1.length + 1]? = some (.lst []) ∧ kvs.length ≤ i ∧ (∀ p ∈ kvs, ∃ x y : Int, p.1 = [Sum.inl x, Sum.inl y] ∧ 0 ≤ x ∧ x < y ∧ y < 2 + v) ∧ Pot n (T + 2 + 2 * i) S' ∧ Fr n S S')
      ⟨[], none, none, none, by simp, g1, g2, by simp, (fun p h => nomatch h), hP.mono (by omega), hF⟩ (fun _ _ _ _ => trivial) (fun i ρ S' hi hp => ?_) (fun ρ S' hp => ?_)
    · obtain ⟨kvs, r1, r6, r7, rfl, g1, g2, hl, hk, hP, hF⟩ := hp
      unfold DL.forTurn
      (try simp_arith only [G6])
      refine takeP hP (by omega) (by omega) (by omega) fun x S3 hx0 hx1 hP hF3 _ => ?_
      replace g1 := hF3.get (by omega) g1
      replace g2 := hF3.get (by omega) g2
      replace hF := hF.trans hF3
      (try simp_arith only [G6])
      refine takeP hP (by omega) (by omega) (by omega) fun y S4 hy0 hy1 hP hF4 _ => ?_
      replace g1 := hF4.get (by omega) g1
      replace g2 := hF4.get (by omega) g2
      replace hF := hF.trans hF4
      (try simp_arith only [])
      refine if_i (fun hxy => ?_) fun _ => ?_
      rotate_left
      · (try simp_arith only [])
        exact ⟨kvs, _, _, _, rfl, g1, g2, by omega, hk, hP.mono (by omega), hF⟩
      · (try simp_arith only [])
        refine ⟨S1.length, kvs, [.inl (if y < x then y else x), .inl (if y > x then y else x)], rfl, g1, rfl, len_lt (by omega), putD kvs [.inl (if y < x then y else x), .inl (if y > x then y else x)] (.bl true), _, _, _, rfl, ?_, ?_, Nat.le_trans (m := kvs.length + 1) len_put (by omega), fun p hp => ?_, (hP.set (by omega)).mono (by omega), hF.set hle⟩
        · rw [List.getElem?_set_self (List.getElem?_eq_some_iff.mp g1).1]
        · rw [List.getElem?_set_ne (by omega)]; exact g2
        · rcases mem_put hp with rfl | hp
          · refine ⟨_, _, rfl, ?_, ?_, ?_⟩
            · split <;> omega
            · split <;> split <;> omega
            · split <;> omega
          · exact hk p hp
    · obtain ⟨kvs, r1, r6, r7, rfl, g1, g2, hl, hk, hP, hF⟩ := hp
      simp only [s_nilA]
      exact hN _ _ ⟨2 + v, kvs, _, _, _, _, _, rfl, by omega, by omega, g1, g2, by omega, hk, hP.mono (by omega), hF, by omega, by omega, hle⟩
  rintro ρ S1 ⟨many, kvs, q1, q2, r1, r6, r7, rfl, m2, m12, g1, g2, hl, hk, hP, hF, hq1, hq2, hle⟩
  (try simp_arith only [])
  refine .inr (.inl ⟨q1, kvs, rfl, by simp only [dctOf, g1], fun p hp => ?_, fun ds' hperm => ?_⟩)
  · obtain ⟨x, y, e, _⟩ := hk p hp
    exact ⟨x, y, e⟩
  simp only [newL]
  obtain ⟨ag, rfl, hag⟩ := ex_map prD (fun p => 0 ≤ p.1 ∧ p.1 < p.2 ∧ p.2 < many) ds' fun d hd => by
    obtain ⟨p, hp, rfl⟩ := List.mem_map.mp (hperm.mem_iff.mp hd)
    obtain ⟨x, y, e, hx, hy, hz⟩ := hk p hp
    exact ⟨(x, y), by rw [e]; rfl, hx, hy, hz⟩
  have hal : ag.length ≤ 24 := by
    have := hperm.length_eq
    rw [List.length_map, List.length_map] at this; omega
  (try simp_arith only [G7])
  refine DL.pickI (lo := 1) (hi := 24) hP (by omega) (by simp only [DL.allI, and_true]; omega) fun w S2 hw0 hw1 hP hF2 _ => ?_
  replace g2 := hF2.get (by omega) g2
  replace hF := hF.trans hF2
  (try simp_arith only [])
  (repeat (refine And.intro (by first | omega | exact DL.mul_small_left (by omega) (by omega) | exact DL.mul_small_right (by omega) (by omega) | exact DL.div_om (by omega) (by omega) (by omega) | exact DL.cpow1 (by omega) (by omega) | exact ⟨by omega, by omega⟩ | exact DL.len_le (by (try simp only [List.length_map, List.length_append, List.length_cons, List.length_nil]); omega) | exact DL.len_lt (by (try simp only [List.length_map, List.length_append, List.length_cons, List.length_nil]); omega) | trivial | decide) ?_))
  refine walk_range (fun i ρ S' => ∃ (rows : List Row) (r1 : Option D), ρ = [some (.ref n), r1, some (.tup (ag.map prD)), some (.int many), some (.ref q1), some (.ref q2), r6, r7] ∧ S'[q2]? = some (.lst (rows.map rowD)) ∧ rows.length = i ∧ (∀ p ∈ rows, SOk many p.1 ∧ SOk many p.2) ∧ (∀ p ∈ rows, Ind ag p.1 ∧ Ind ag p.2) ∧ Pot n (T + 53 + 40 * i) S' ∧ Fr n S S')
    ⟨[], _, rfl, g2, rfl, (fun p h => nomatch h), (fun p h => nomatch h), hP.mono (by omega), hF⟩ (fun _ _ _ _ => trivial) (fun i ρ S' hi hp => ?_) (fun ρ S' hp => ?_)
  · obtain ⟨rows, r1, rfl, g2, hl, hr, hri, hP, hF⟩ := hp
    unfold DL.forTurn
    (try simp_arith only [G8])
    refine ⟨lat g2, n, _, many, ag, rfl, fun p hp => (hag p hp).2.1, hP, by omega, by omega, by omega, fun s1 S3 h1 j1 hP hF3 => ?_⟩
    replace g2 := hF3.get (by omega) g2
    replace hF := hF.trans hF3
    (try simp_arith only [G8])
    refine ⟨n, _, many, ag, rfl, fun p hp => (hag p hp).2.1, hP, by omega, by omega, by omega, fun s2 S4 h2 j2 hP hF4 => ?_⟩
    replace g2 := hF4.get (by omega) g2
    replace hF := hF.trans hF4
    (try simp_arith only [])
    refine ⟨_, g2, by rw [List.length_map]; exact len_lt (by omega), rows ++ [(s1, s2)], _, rfl, ?_, by simp [hl], fun p hp => ?_, fun p hp => ?_, (hP.set (by omega)).mono (by omega), hF.set (by omega)⟩
    · rw [List.getElem?_set_self (List.getElem?_eq_some_iff.mp g2).1]; simp [rowD]
    · rcases List.mem_append.mp hp with h | h
      · exact hr p h
      · rw [List.mem_singleton.mp h]; exact ⟨h1, h2⟩
    · rcases List.mem_append.mp hp with h | h
      · exact hri p h
      · rw [List.mem_singleton.mp h]; exact ⟨j1, j2⟩
  · obtain ⟨rows, r1, rfl, g2, hl, hr, hri, hP, hF⟩ := hp
    (try simp_arith only [])
    refine ⟨_, by rw [g2]; rfl, ?_⟩
    exact hQ many ag rows S' ⟨by omega, by omega, by omega, hag, by omega, by omega, hr, hri⟩ (hP.mono (by omega)) hF
/-! ### those against -/
def tho (ps : List (Int × Int)) (k : Int) : List Int := ps.flatMap fun p => (if p.1 = k then [p.2] else []) ++ (if p.2 = k then [p.1] else [])
theorem tho_app (ps : List (Int × Int)) (p : Int × Int) (k : Int) : tho (ps ++ [p]) k = tho ps k ++ ((if p.1 = k then [p.2] else []) ++ (if p.2 = k then [p.1] else [])) := by
  unfold tho; rw [List.flatMap_append]; simp
theorem tho_mem {ps : List (Int × Int)} {k x : Int} : x ∈ tho ps k ↔ Ag ps k x := by
  unfold tho Ag
  rw [List.mem_flatMap]
  constructor
  · rintro ⟨p, hp, hx⟩
    rcases List.mem_append.mp hx with hx | hx
    · split at hx
      · rename_i e
        rw [List.mem_singleton.mp hx, ← e]; exact .inl hp
      · cases hx
    · split at hx
      · rename_i e
        rw [List.mem_singleton.mp hx, ← e]; exact .inr hp
      · cases hx
  · rintro (h | h)
    · exact ⟨_, h, by simp⟩
    · exact ⟨_, h, by simp⟩
theorem tho_len : ∀ (ps : List (Int × Int)) (k : Int), (tho ps k).length ≤ 2 * ps.length
  | [], _ => by simp [tho]
  | p :: ps, k => by
    have := tho_len ps k
    unfold tho at this ⊢
    rw [List.flatMap_cons, List.length_append, List.length_append, List.length_cons]
    have h1 : (if p.1 = k then [p.2] else []).length ≤ 1 := by split <;> simp
    have h2 : (if p.2 = k then [p.1] else []).length ≤ 1 := by split <;> simp
    omega
def FK (q i : Nat) : List (L2.Key × D) := (List.range i).map fun (k : Nat) => ((Sum.inl (k : Int) : L2.Key), D.ref (q + k))
theorem valD_app {kvs : List (L2.Key × D)} {k j : L2.Key} {d : D} : valD (kvs ++ [(k, d)]) j = match valD kvs j with | some x => some x | none => if k = j then some d else none := by
  induction kvs with
  | nil => rw [List.nil_append, valD_cons]; rfl
  | cons p r ih =>
    rw [List.cons_append, valD_cons, valD_cons, ih]
    by_cases h : p.1 = j
    · rw [if_pos h, if_pos h]
    · rw [if_neg h, if_neg h]
theorem FK_val (q : Nat) : ∀ i j : Nat, valD (FK q i) (.inl (j : Int)) = if j < i then some (.ref (q + j)) else none
  | 0, j => by simp [FK, valD_nil]
  | i + 1, j => by
    have e : FK q (i + 1) = FK q i ++ [(.inl (i : Int), .ref (q + i))] := by unfold FK; rw [List.range_succ, List.map_append]; rfl
    rw [e, valD_app, FK_val q i j]
    by_cases h : j < i
    · rw [if_pos h, if_pos (show j < i + 1 by omega)]
    · rw [if_neg h]
      by_cases h2 : j = i
      · subst h2
        rw [if_pos (show j < j + 1 by omega)]
        simp
      · rw [if_neg (show ¬ j < i + 1 by omega)]
        have : ¬ ((Sum.inl (i : Int) : L2.Key) = Sum.inl (j : Int)) := fun z => by
          have := Sum.inl.inj z
          omega
        simp only [this, if_false]
theorem FK_put (q i : Nat) : putD (FK q i) (.inl (i : Int)) (.ref (q + i)) = FK q (i + 1) := by
  unfold putD
  rw [any_val, FK_val, if_neg (Nat.lt_irrefl i)]
  unfold FK
  rw [List.range_succ, List.map_append]
  rfl
theorem FK_len (q i : Nat) : (FK q i).length = i := by simp [FK]
theorem body2 : ∀ ds S Q, G.fn 2 ds S Q → wpSs G c2 (startD n2.length ds) S { nx := fun _ S' => Q .non S', rt := Q } := by
  rintro ds S Q ⟨many, ag, rows, rfl, hw, hQ⟩
  have m2 := hw.m2; have m12 := hw.m12; have hal := hw.alen
  obtain ⟨m, rfl⟩ := Int.eq_ofNat_of_zero_le (show 0 ≤ many by omega)
  unfold c2 n2
  refine ss_split 1 (fun ρ S' => ∃ d, Kp S S' ∧ S.length + m ≤ d ∧ S'[d]? = some (.dkk (FK S.length m)) ∧ S'.length = d + 1 ∧ (∀ k, k < m → S'[S.length + k]? = some (.lst [])) ∧ ρ = [some (wD m ag rows), some (.ref d), none, none, none, none]) (fun N hN => ?_) ?_
  · show wpSs G [_] _ _ _
    unfold wD
    simp_arith only [e_dcomp]
    refine ⟨⟨by omega, by omega⟩, ?_⟩
    refine ⟨fun i acc S' => i ≤ m ∧ acc = FK S.length i ∧ Kp S S' ∧ S'.length = S.length + i ∧ ∀ k, k < i → S'[S.length + k]? = some (.lst []), ⟨by omega, rfl, kp_refl, by omega, fun k h => absurd h (by omega)⟩, fun i acc S' h => ⟨trivial, by rw [rangeD, List.length_map, List.length_range]; omega⟩, fun i x acc S' h hx => ?_, fun acc S' h => ?_⟩
    · obtain ⟨hi, rfl, hK, hl, hk⟩ := h
      have hi2 := (List.getElem?_eq_some_iff.mp hx).1
      rw [rangeD, List.length_map, List.length_range] at hi2
      unfold rangeD at hx
      rw [List.getElem?_map, List.getElem?_range hi2] at hx
      cases hx
      (try simp_arith only [])
      refine ⟨.inl (0 + (i : Int)), rfl, by rw [FK_len]; exact len_lt (by omega), by omega, ?_, hK.trans kp_app, by simp [hl]; omega, fun k hk' => ?_⟩
      · rw [show (0 : Int) + (i : Int) = (i : Int) by omega, hl, FK_put]
      · by_cases e : k = i
        · subst e
          rw [← hl]; simp
        · rw [List.getElem?_append_left (by omega)]
          exact hk k (by omega)
    · obtain ⟨_, rfl, hK, hl, hk⟩ := h
      have e : (rangeD 0 (m : Int)).length = m := by rw [rangeD, List.length_map, List.length_range]; omega
      rw [e] at hl hk ⊢
      refine hN _ _ ⟨S'.length, hK.trans kp_app, by omega, by simp, by simp, fun k hk' => ?_, rfl⟩
      rw [List.getElem?_append_left (by omega)]
      exact hk k hk'
  rintro ρ S1 ⟨d, hK, hd, hd1, hlen1, hls, rfl⟩
  refine ss_split 1 (fun ρ S' => Kp S S' ∧ S'[d]? = some (.dkk (FK S.length m)) ∧ S'.length = d + 1 ∧ (∀ k, k < m → S'[S.length + k]? = some (.lst ((tho ag k).map D.int))) ∧ ∃ r2 r3, ρ = [some (wD m ag rows), some (.ref d), r2, r3, none, none]) (fun N hN => ?_) ?_
  · show wpSs G [_] _ _ _
    unfold wD
    simp_arith only []
    refine walk_list (fun i ρ S' => ∃ (r2 r3 : Option D), ρ = [some (wD m ag rows), some (.ref d), r2, r3, none, none] ∧ Kp S S' ∧ S'[d]? = some (.dkk (FK S.length m)) ∧ S'.length = d + 1 ∧ ∀ k, k < m → S'[S.length + k]? = some (.lst ((tho (ag.take i) k).map D.int)))
      ⟨none, none, rfl, hK, hd1, hlen1, fun k hk => by rw [hls k hk]; rfl⟩ (fun _ _ _ _ => trivial) (fun i x ρ S2 hx hp => ?_) (fun ρ S2 hp => ?_)
    · obtain ⟨r2, r3, rfl, hK, hd1, hlen1, hls⟩ := hp
      rw [List.getElem?_map] at hx
      obtain ⟨p, hp, rfl⟩ := Option.map_eq_some_iff.mp hx
      have hi := (List.getElem?_eq_some_iff.mp hp).1
      obtain ⟨p0, p1, p2⟩ := hw.asm p (List.mem_of_getElem? hp)
      obtain ⟨x, y⟩ := p
      simp only at p0 p1 p2
      obtain ⟨a, rfl⟩ := Int.eq_ofNat_of_zero_le p0
      obtain ⟨b, rfl⟩ := Int.eq_ofNat_of_zero_le (show 0 ≤ y by omega)
      have et : ag.take (i + 1) = ag.take i ++ [((a : Int), (b : Int))] := by rw [List.take_add_one, hp]; rfl
      have hdk : dkkOf S2 d = some (FK S.length m) := dkk_at hd1
      have la := hls a (by omega)
      have lb := hls b (by omega)
      have lna := tho_len (ag.take i) a
      have lnb := tho_len (ag.take i) b
      have ltk : (ag.take i).length ≤ 24 := by rw [List.length_take]; omega
      unfold DL.forTurn prD
      (try simp_arith only [])
      refine ⟨trivial, d, _, .inl (a : Int), .ref (S.length + a), rfl, hdk, rfl, by rw [FK_val, if_pos (by omega)], S.length + a, rfl, lat la, ?_⟩
      refine ⟨_, la, len_lt (by rw [List.length_map]; omega), ?_⟩
      have hd2 : (S2.set (S.length + a) (.lst ((tho (ag.take i) a).map D.int ++ [.int b])))[d]? = some (.dkk (FK S.length m)) := by rw [List.getElem?_set_ne (by omega)]; exact hd1
      have lb2 : (S2.set (S.length + a) (.lst ((tho (ag.take i) a).map D.int ++ [.int b])))[S.length + b]? = some (.lst ((tho (ag.take i) b).map D.int)) := by rw [List.getElem?_set_ne (by omega)]; exact lb
      (try simp_arith only [])
      refine ⟨d, _, .inl (b : Int), .ref (S.length + b), rfl, dkk_at hd2, rfl, by rw [FK_val, if_pos (by omega)], S.length + b, rfl, lat lb2, ?_⟩
      refine ⟨_, lb2, len_lt (by rw [List.length_map]; omega), _, _, rfl, kp_set (kp_set hK (by omega)) (by omega), ?_, by simp [hlen1], fun k hk => ?_⟩
      · rw [List.getElem?_set_ne (by omega)]; exact hd2
      · rw [et, tho_app]
        by_cases eb : k = b
        · subst eb
          rw [set_get lb2]
          have : ¬ ((a : Int) = (k : Int)) := by omega
          simp [this]
        · rw [List.getElem?_set_ne (by omega)]
          have nb : ¬ ((b : Int) = (k : Int)) := by omega
          by_cases ea : k = a
          · subst ea
            rw [set_get la]
            simp [nb]
          · rw [List.getElem?_set_ne (by omega), hls k hk]
            have na : ¬ ((a : Int) = (k : Int)) := by omega
            simp [na, nb]
    · obtain ⟨r2, r3, rfl, hK, hd1, hlen1, hls⟩ := hp
      rw [List.length_map, List.take_length] at hls
      simp only [s_nilA]
      exact hN _ _ ⟨hK, hd1, hlen1, hls, _, _, rfl⟩
  rintro ρ S2 ⟨hK, hd1, hlen1, hls, r2, r3, rfl⟩
  show wpSs G [_] _ _ _
  rw [s_cons, s_lockK]
  refine ⟨d, _, hd1, ?_⟩
  have hlk : (S2.set d (.dkl (FK S.length m)))[d]? = some (.dkl (FK S.length m)) := set_get hd1
  have hlk2 : ∀ k, k < m → (S2.set d (.dkl (FK S.length m)))[S.length + k]? = some (.lst ((tho ag k).map D.int)) := fun k hk => by rw [List.getElem?_set_ne (by omega)]; exact hls k hk
  have hll : (S2.set d (.dkl (FK S.length m))).length = d + 1 := by simp [hlen1]
  have hKl : ∀ j c, j < S.length → (S2.set d (.dkl (FK S.length m)))[j]? = some c → S2[j]? = some c := fun j c hj h => by rwa [List.getElem?_set_ne (by omega)] at h
  have hback : ∀ j c, S[j]? = some c → (S2.set d (.dkl (FK S.length m)))[j]? = some c := fun j c h => by
    have := (List.getElem?_eq_some_iff.mp h).1
    rw [List.getElem?_set_ne (by omega)]; exact hK j c h
  generalize S2.set d (.dkl (FK S.length m)) = S3 at *
  simp_arith only [e_dcomp]
  refine ⟨d, _, rfl, hlk, ?_⟩
  refine ⟨fun i acc S' => i ≤ m ∧ acc = FK S3.length i ∧ Kp S3 S' ∧ S'.length = S3.length + i ∧ ∀ k, k < i → ∃ zs : List Int, S'[S3.length + k]? = some (.lst (zs.map D.int)) ∧ zs.Perm (tho ag k) ∧ zs.Pairwise (· ≤ ·), ⟨by omega, rfl, kp_refl, by omega, fun k h => absurd h (by omega)⟩, fun i acc S' h => ⟨trivial, by rw [List.length_map, FK_len]; omega⟩, fun i x acc S' h hx => ?_, fun acc S' h => ?_⟩
  · obtain ⟨hi, rfl, hK', hl, hk⟩ := h
    have hi2 := (List.getElem?_eq_some_iff.mp hx).1
    rw [List.length_map, FK_len] at hi2
    unfold FK at hx
    rw [List.getElem?_map, List.getElem?_map, List.getElem?_range hi2] at hx
    cases hx
    have hq := hK' _ _ (hlk2 i hi2)
    simp only [keyD]
    (try simp_arith only [])
    refine ⟨trivial, .inl ⟨_, _, by simp only [lstOf, hq]; rfl, mapM_int _, fun zs hp hs => ?_⟩⟩
    simp only [newL]
    refine ⟨.inl (i : Int), rfl, by rw [FK_len]; exact len_lt (by omega), by omega, by rw [hl, FK_put], hK'.trans kp_app, by simp [hl]; omega, fun k hk' => ?_⟩
    by_cases e : k = i
    · subst e
      exact ⟨zs, by rw [← hl]; simp, hp, hs⟩
    · obtain ⟨zs', g1, g2, g3⟩ := hk k (by omega)
      exact ⟨zs', by rw [List.getElem?_append_left (by omega)]; exact g1, g2, g3⟩
  · obtain ⟨_, rfl, hK', hl, hk⟩ := h
    rw [List.length_map, FK_len] at hl hk ⊢
    (try simp_arith only [])
    refine hQ S'.length (FK S3.length m) _ ⟨?_, fun k k0 k1 => ?_⟩ (fun j c hj => ?_)
    · rw [List.getElem?_set_ne (by omega)]; simp
    · obtain ⟨k', rfl⟩ := Int.eq_ofNat_of_zero_le k0
      obtain ⟨zs, g1, g2, g3⟩ := hk k' (by omega)
      have := tho_len ag k'
      refine ⟨S3.length + k', zs, by rw [FK_val, if_pos (by omega)], ?_, by rw [g2.length_eq]; omega, g3, fun x => ?_⟩
      · rw [List.getElem?_set_ne (by omega), List.getElem?_append_left (by omega)]; exact g1
      · rw [g2.mem_iff]; exact tho_mem
    · have hj2 := (List.getElem?_eq_some_iff.mp hj).1
      rw [List.getElem?_set_ne (by omega), List.getElem?_append_left (by omega)]
      exact hK' _ _ (hback j c hj)
/-! ### the first met -/
theorem in_ints {S : DStore} {x : Int} {xs : List Int} {Q : Bool → Prop} (h : Q (decide (x ∈ xs))) : cmpD .In S (.int x) (.tup (xs.map D.int)) Q := by
  refine ⟨xs.map D.int, rfl, rfl, by simp [flatD], ?_⟩
  rw [inV_ints]; exact h
theorem sorted_get {xs : List Int} (h : xs.Pairwise (· ≤ ·)) {i : Nat} {x y : Int} (hi : xs[i]? = some x) (hy : y ∈ xs) : y ∈ xs.take i ∨ x ≤ y := by
  obtain ⟨j, hj⟩ := List.getElem?_of_mem hy
  by_cases hji : j < i
  · left
    exact List.mem_of_getElem? (i := j) (by rw [List.getElem?_take, if_pos hji]; exact hj)
  · right
    by_cases e : j = i
    · subst e; rw [hi] at hj; cases hj; exact Int.le_refl _
    · obtain ⟨hi1, hi2⟩ := List.getElem?_eq_some_iff.mp hi
      obtain ⟨hj1, hj2⟩ := List.getElem?_eq_some_iff.mp hj
      have := List.pairwise_iff_getElem.mp h i j hi1 hj1 (by omega)
      rw [hi2, hj2] at this; exact this
theorem body3 : ∀ ds S Q, G.fn 3 ds S Q → wpSs G c3 (startD n3.length ds) S { nx := fun _ S' => Q .non S', rt := Q } := by
  rintro ds S Q ⟨d, many, ag, kvs, here, there, same, rfl, hT, hh, hQ⟩
  unfold c3 n3 tupI
  simp_arith only []
  refine ⟨here, mapM_int here, fun hs hp hso => ?_⟩
  simp only [newL]
  (try simp_arith only [])
  refine walk_list (fun i ρ S' => ∃ (r4 r5 : Option D), ρ = [some (.ref d), some (tupI here), some (tupI there), some (.bl same), r4, r5] ∧ S' = S ∧ ∀ a ∈ hs.take i, ∀ b, ¬ MM ag here there same a b) ⟨none, none, rfl, rfl, by simp⟩ (fun _ _ _ _ => trivial) (fun i x ρ S' hx hpp => ?_) (fun ρ S' hpp => ?_)
  · obtain ⟨r4, r5, rfl, rfl, hno⟩ := hpp
    rw [List.getElem?_map] at hx
    obtain ⟨a, ha, rfl⟩ := Option.map_eq_some_iff.mp hx
    have hmem := hp.mem_iff.mp (List.mem_of_getElem? ha)
    obtain ⟨a0, a1⟩ := hh.sm a hmem
    obtain ⟨p, zs, hv, hz, hzl, hzs, hzm⟩ := hT.v a a0 a1
    have et : hs.take (i + 1) = hs.take i ++ [a] := by rw [List.take_add_one, ha]; rfl
    unfold DL.forTurn
    (try simp_arith only [])
    refine ⟨d, kvs, .inl a, .ref p, rfl, dkk_at hT.at', rfl, hv, ?_⟩
    (try simp_arith only [])
    refine ⟨_, hz, ?_⟩
    refine walk_list (fun j ρ S2 => ∃ (r5 : Option D), ρ = [some (.ref d), some (tupI here), some (tupI there), some (.bl same), some (.int a), r5] ∧ S2 = S' ∧ ∀ b ∈ zs.take j, ¬ MM ag here there same a b) ⟨_, rfl, rfl, by simp⟩ (fun j ρ S2 h => by obtain ⟨_, _, e, _⟩ := h; rw [e]; exact hz) (fun j x ρ S2 hx2 hpp => ?_) (fun ρ S2 hpp => ?_)
    · obtain ⟨r5, rfl, rfl, hnb⟩ := hpp
      rw [List.getElem?_map] at hx2
      obtain ⟨b, hb, rfl⟩ := Option.map_eq_some_iff.mp hx2
      have hbm := (hzm b).mp (List.mem_of_getElem? hb)
      have etb : zs.take (j + 1) = zs.take j ++ [b] := by rw [List.take_add_one, hb]; rfl
      have skip : ¬ MM ag here there same a b → ∀ b' ∈ zs.take (j + 1), ¬ MM ag here there same a b' := fun h b' hb' => by
        rw [etb] at hb'
        rcases List.mem_append.mp hb' with hb' | hb'
        · exact hnb b' hb'
        · rw [List.mem_singleton.mp hb']; exact h
      have hit : MM ag here there same a b → Q (.tup [.int a, .int b]) S2 := fun h => hQ _ (.inr ⟨a, b, rfl, h, fun a' b' h' => by
        rcases sorted_get hso ha (hp.mem_iff.mpr h'.ia) with hm | hle
        · exact absurd h' (hno a' hm b')
        · by_cases e : a = a'
          · subst e
            rcases sorted_get hzs hb ((hzm b').mpr h'.ag) with hm | hle
            · exact absurd h' (hnb b' hm)
            · exact .inr ⟨rfl, hle⟩
          · exact .inl (by omega)⟩)
      unfold DL.forTurn tupI
      (try simp_arith only [])
      refine in_ints ?_
      by_cases hin : b ∈ there
      · rw [decide_eq_true hin]
        (try simp_arith only [])
        refine if_i (fun hab => ?_) fun hab => ?_
        · (try simp_arith only [])
          exact hit ⟨hmem, hbm, hin, .inl hab⟩
        · cases same with
          | true =>
            (try simp_arith only [])
            exact ⟨_, rfl, trivial, skip fun h => by
              rcases h.w with h | h
              · exact hab h
              · cases h⟩
          | false =>
            (try simp_arith only [])
            exact hit ⟨hmem, hbm, hin, .inr rfl⟩
      · rw [decide_eq_false hin]
        (try simp_arith only [])
        exact ⟨_, rfl, trivial, skip fun h => hin h.ib⟩
    · obtain ⟨r5, rfl, rfl, hnb⟩ := hpp
      rw [List.length_map, List.take_length] at hnb
      simp only [s_nilA]
      refine ⟨_, _, rfl, trivial, fun a' ha' b' h' => ?_⟩
      rw [et] at ha'
      rcases List.mem_append.mp ha' with ha' | ha'
      · exact hno a' ha' b' h'
      · rw [List.mem_singleton.mp ha'] at h'
        exact hnb b' ((hzm b').mpr h'.ag) h'
  · obtain ⟨r4, r5, rfl, rfl, hno⟩ := hpp
    rw [List.length_map, List.take_length] at hno
    (try simp_arith only [])
    exact hQ _ (.inl ⟨rfl, fun a b h => hno a (hp.mem_iff.mpr h.ia) b h⟩)
theorem sw_mem {many long : Int} {dr : List Drv} (h : ∀ p ∈ dr, SOk many p.1) : ∀ r ∈ dr.flatMap (swOf long), SOk many r := fun r hr => by
  obtain ⟨p, hp, hr⟩ := List.mem_flatMap.mp hr
  unfold swOf at hr
  obtain ⟨i, _, rfl⟩ := List.mem_map.mp hr
  have z : SOk many [] := ⟨by simp, by simp⟩
  unfold swAt
  split
  · exact z
  · split
    · exact h p hp
    · exact z
theorem body4 : ∀ ds S Q, G.fn 4 ds S Q → wpSs G c4 (startD n4.length ds) S { nx := fun _ S' => Q .non S', rt := Q } := by
  rintro ds S Q ⟨many, ag, rows, ap, long, dr, rfl, hw, l0, l1, a0, a1, hdl, hds, hQ⟩
  have hR := sw_mem (long := long) hds
  have hRl := sw_len l0 l1 dr
  unfold c4 n4
  refine ss_split 1 (fun ρ S' => ∃ d kvs, Kp S S' ∧ Ths S' d many ag kvs ∧ ρ = [some (wD many ag rows), some (.int ap), some (.int long), some (.tup (dr.map drD)), some (.tup ((dr.flatMap (swOf long)).map tupI)), some (.ref d), none, none, none, none]) (fun N hN => ?_) ?_
  · show wpSs G [_] _ _ _
    simp_arith only [G1]
    refine ⟨long, dr, rfl, l0, l1, hdl, fun S1 k1 => ?_⟩
    (try simp_arith only [G2])
    refine ⟨many, ag, rows, rfl, hw, fun d kvs S2 hT k2 => ?_⟩
    exact hN _ _ ⟨d, kvs, k1.trans k2, hT, rfl⟩
  rintro ρ S1 ⟨d, kvs, hK, hT, rfl⟩
  generalize hRR : dr.flatMap (swOf long) = R at *
  show wpSs G [_, _] _ _ _
  simp_arith only []
  refine walk_list (fun i ρ S' => ∃ (r6 r7 r8 r9 : Option D), ρ = [some (wD many ag rows), some (.int ap), some (.int long), some (.tup (dr.map drD)), some (.tup (R.map tupI)), some (.ref d), r6, r7, r8, r9] ∧ S' = S1 ∧ ∀ s t a b, PP ag ap R s t a b → i ≤ s) ⟨_, _, _, _, rfl, rfl, fun _ _ _ _ _ => Nat.zero_le _⟩ (fun _ _ _ _ => trivial) (fun i x ρ S' hx hp => ?_) (fun ρ S' hp => ?_)
  · obtain ⟨r6, r7, r8, r9, rfl, rfl, hno⟩ := hp
    have hi := (List.getElem?_eq_some_iff.mp hx).1
    rw [enum_len, List.length_map] at hi
    obtain ⟨here, hh⟩ : ∃ here, R[i]? = some here := ⟨_, List.getElem?_eq_getElem hi⟩
    rw [enum_get (x := tupI here) (by rw [List.getElem?_map, hh]; rfl)] at hx
    cases hx
    have hso := hR here (List.mem_of_getElem? hh)
    have eh : R.getD i [] = here := by rw [List.getD_eq_getElem?_getD, hh]; rfl
    unfold DL.forTurn tupI
    (try simp_arith only [List.length_map])
    refine ⟨trivial, if_i (fun h0 => ?_) fun h0 => ?_⟩
    · refine ⟨_, _, _, _, rfl, trivial, fun s t a b h => ?_⟩
      have h1 := hno s t a b h
      by_cases e : s = i
      · subst e
        have := h.ia
        rw [eh] at this
        have hl : here.length = 0 := by omega
        rw [List.eq_nil_of_length_eq_zero hl] at this
        cases this
      · omega
    · have e0 : R.map (fun r => D.tup (r.map D.int)) = R.map tupI := rfl
      (try simp_arith only [List.length_map])
      have hm : ∀ t : Nat, ((t : Int) < if (i : Int) + ap + 1 < R.length then (i : Int) + ap + 1 else R.length) ↔ (t < R.length ∧ (t : Int) < i + ap + 1) := fun t => by split <;> omega
      have hb2 : (if (i : Int) + ap + 1 < R.length then (i : Int) + ap + 1 else (R.length : Int)) ≤ 20000 ∧ 0 ≤ (if (i : Int) + ap + 1 < R.length then (i : Int) + ap + 1 else (R.length : Int)) := by split <;> omega
      generalize hM : (if (i : Int) + ap + 1 < R.length then (i : Int) + ap + 1 else (R.length : Int)) = M at *
      (repeat (refine And.intro (by first | omega | exact DL.mul_small_left (by omega) (by omega) | exact DL.mul_small_right (by omega) (by omega) | exact DL.div_om (by omega) (by omega) (by omega) | exact DL.cpow1 (by omega) (by omega) | exact ⟨by omega, by omega⟩ | exact DL.len_le (by (try simp only [List.length_map, List.length_append, List.length_cons, List.length_nil]); omega) | exact DL.len_lt (by (try simp only [List.length_map, List.length_append, List.length_cons, List.length_nil]); omega) | trivial | decide) ?_))
      refine walk_range (fun j ρ S2 => ∃ (r8 r9 : Option D), ρ = [some (wD many ag rows), some (.int ap), some (.int long), some (.tup (dr.map drD)), some (.tup (R.map tupI)), some (.ref d), some (.int i), some (tupI here), r8, r9] ∧ S2 = S' ∧ ∀ t a b, PP ag ap R i t a b → i + j ≤ t) ⟨_, _, rfl, rfl, fun t a b h => by have := h.st; omega⟩ (fun _ _ _ _ => trivial) (fun j ρ S2 hj hp => ?_) (fun ρ S2 hp => ?_)
      · obtain ⟨r8, r9, rfl, rfl, hnt⟩ := hp
        have hj2 := (hm (i + j)).mp (by omega)
        obtain ⟨there, ht⟩ : ∃ there, R[i + j]? = some there := ⟨_, List.getElem?_eq_getElem (by omega)⟩
        have eht : R.getD (i + j) [] = there := by rw [List.getD_eq_getElem?_getD, ht]; rfl
        have eat : atI (R.map tupI) ((i : Int) + (j : Int)) = some (tupI there) := by
          have := at_map (mk := tupI) ht
          rwa [show (((i + j : Nat)) : Int) = (i : Int) + (j : Int) by omega] at this
        have PM : ∀ a b, PP ag ap R i (i + j) a b ↔ MM ag here there (decide ((i : Int) = (i : Int) + (j : Int))) a b := fun a b => by
          constructor
          · intro h
            refine ⟨eh ▸ h.ia, h.ag, eht ▸ h.ib, ?_⟩
            rcases h.w with h | h
            · exact .inr (decide_eq_false (by omega))
            · exact .inl h
          · intro h
            refine ⟨by omega, hj2.1, by omega, by rw [eh]; exact h.ia, by rw [eht]; exact h.ib, h.ag, ?_⟩
            rcases h.w with h | h
            · exact .inr h
            · have := of_decide_eq_false h
              exact .inl (by omega)
        unfold DL.forTurn
        (try simp_arith only [eat, G3])
        refine ⟨d, many, ag, kvs, here, there, _, rfl, hT, hso, fun r hr => ?_⟩
        rcases hr with ⟨rfl, hnone⟩ | ⟨a, b, rfl, hm1, hleast⟩
        · (try simp_arith only [])
          refine ⟨_, _, rfl, trivial, fun t a b h => ?_⟩
          have h1 := hnt t a b h
          by_cases e : t = i + j
          · subst e
            exact absurd ((PM a b).mp h) (hnone a b)
          · omega
        · (try simp_arith only [])
          refine ⟨len_le (by decide), ?_⟩
          refine hQ _ S2 hK (.inr ⟨[(i : Int), (i : Int) + j, a, b], rfl, ⟨i, i + j, a, b, by rw [show (((i + j : Nat)) : Int) = (i : Int) + (j : Int) by omega], (PM a b).mpr hm1⟩, ?_⟩)
          rintro q' ⟨s', t', a', b', rfl, h'⟩
          have s1 := hno s' t' a' b' h'
          refine quad_le ?_
          by_cases es : i = s'
          · subst es
            have t1 := hnt t' a' b' h'
            refine .inr ⟨rfl, ?_⟩
            by_cases etq : i + j = t'
            · subst etq
              have := hleast a' b' ((PM a' b').mp h')
              exact .inr ⟨by omega, this⟩
            · exact .inl (by omega)
          · exact .inl (by omega)
      · obtain ⟨r8, r9, rfl, rfl, hnt⟩ := hp
        simp only [s_nilA]
        refine ⟨_, _, _, _, rfl, trivial, fun s t a b h => ?_⟩
        have h1 := hno s t a b h
        by_cases e : s = i
        · subst e
          have h2 := hnt t a b h
          have h3 := (hm t).mpr ⟨h.len, h.near⟩
          have h4 := h.st
          omega
        · omega
  · obtain ⟨r6, r7, r8, r9, rfl, rfl, hno⟩ := hp
    rw [enum_len, List.length_map] at hno
    (try simp_arith only [])
    refine hQ _ S' hK (.inl ⟨rfl, ?_⟩)
    rintro q ⟨s, t, a, b, rfl, h⟩
    have := hno s t a b h
    have := h.st
    have := h.len
    omega
def quP (q : List Int) : PyData := .tuple (q.map .int)
theorem nil_rows {S : DStore} {L : List (List Int)} {QB : Bool → Prop} (q : QB L.isEmpty) : cmpD .Eq S (.lst (L.map tI)) (.lst []) QB := by
  refine eq_nilL (purs_map tI quP L fun q _ => pur_tI q) (cl_map quP L fun q _ => ?_) (Nat.le_trans (dep_map quP 1 L fun q _ => ?_) (by decide)) (by cases L <;> rfl) (by cases L <;> exact q)
  · simp only [quP, PyData.canLay0, lay_i]
  · have h2 := dep_map PyData.int 0 q fun _ _ => Nat.le_refl _
    show PyData.depthAll _ + 1 ≤ 1
    omega
theorem nil_rowsR {S : DStore} {q : Nat} {L : List (List Int)} {QB : Bool → Prop} (hq : S[q]? = some (.lst (L.map tI))) (h : QB L.isEmpty) : cmpD .Eq S (.ref q) (.lst []) QB := by
  obtain ⟨p1, p2, e1, e2, s1, s2, r⟩ := nil_rows (S := S) (L := L) (QB := QB) h
  refine ⟨p1, p2, ?_, e2, s1, s2, r⟩
  rw [← e1]
  simp only [purS, lstOf, hq]
  rfl
/-! ### the law's own walk -/
section
variable (R : List (List Int))
def occ (b : Int) (T : Nat) : List Int := ((List.range T).filter fun s => decide (b ∈ R.getD s [])).map fun (s : Nat) => (s : Int)
theorem occ_succ (b : Int) (T : Nat) : occ R b (T + 1) = occ R b T ++ if b ∈ R.getD T [] then [(T : Int)] else [] := by
  unfold occ
  rw [List.range_succ, List.filter_append, List.map_append]
  congr 1
  by_cases h : b ∈ R.getD T []
  · rw [if_pos h, List.filter_cons_of_pos (by simpa using h)]; rfl
  · rw [if_neg h, List.filter_cons_of_neg (by simpa using h)]; rfl
theorem occ_mem {b s : Int} {T : Nat} : s ∈ occ R b T ↔ ∃ n : Nat, s = n ∧ n < T ∧ b ∈ R.getD n [] := by
  unfold occ
  rw [List.mem_map]
  constructor
  · rintro ⟨n, h, rfl⟩
    rw [List.mem_filter, List.mem_range] at h
    exact ⟨n, rfl, h.1, of_decide_eq_true h.2⟩
  · rintro ⟨n, rfl, h1, h2⟩
    exact ⟨n, by rw [List.mem_filter, List.mem_range]; exact ⟨h1, decide_eq_true h2⟩, rfl⟩
theorem occ_len (b : Int) (T : Nat) : (occ R b T).length ≤ T := by
  unfold occ
  rw [List.length_map]
  exact Nat.le_trans (List.length_filter_le _ _) (by simp)
theorem occ_inc (b : Int) (T : Nat) : (occ R b T).Pairwise (· < ·) := by
  unfold occ
  rw [List.pairwise_map]
  exact (List.Pairwise.filter _ List.pairwise_lt_range).imp fun h => by omega
end
theorem inc_gap {xs : List Int} (h : xs.Pairwise (· < ·)) : ∀ (d i : Nat) (x y : Int), xs[i]? = some x → xs[i + d]? = some y → x + d ≤ y
  | 0, i, x, y, h1, h2 => by
    rw [Nat.add_zero] at h2
    rw [h1] at h2
    cases h2
    omega
  | d + 1, i, x, y, h1, h2 => by
    have l2 := (List.getElem?_eq_some_iff.mp h2).1
    obtain ⟨z, hz⟩ : ∃ z, xs[i + d]? = some z := ⟨_, List.getElem?_eq_getElem (by omega)⟩
    have h3 := inc_gap h d i x z h1 hz
    obtain ⟨l1, e1⟩ := List.getElem?_eq_some_iff.mp hz
    obtain ⟨l2, e2⟩ := List.getElem?_eq_some_iff.mp h2
    have := List.pairwise_iff_getElem.mp h (i + d) (i + (d + 1)) l1 l2 (by omega)
    rw [e1, e2] at this
    omega
theorem near_mem {xs : List Int} (h : xs.Pairwise (· < ·)) {T ap y : Int} (hT : ∀ x ∈ xs, x ≤ T) (hy : y ∈ xs) (hn : T - y ≤ ap) : y ∈ xs.drop (xs.length - (ap.toNat + 1)) := by
  obtain ⟨i, hi⟩ := List.getElem?_of_mem hy
  have li := (List.getElem?_eq_some_iff.mp hi).1
  obtain ⟨z, hz⟩ : ∃ z, xs[i + (xs.length - 1 - i)]? = some z := ⟨_, List.getElem?_eq_getElem (by omega)⟩
  have h1 := inc_gap h _ _ _ _ hi hz
  have h2 := hT z (List.mem_of_getElem? hz)
  have h3 := hT y hy
  refine List.mem_of_getElem? (i := i - (xs.length - (ap.toNat + 1))) ?_
  rw [List.getElem?_drop, show xs.length - (ap.toNat + 1) + (i - (xs.length - (ap.toNat + 1))) = i by omega]
  exact hi
theorem cut_tail {xs : List Int} {ap : Int} (h : 0 ≤ ap) : DL.cutD (xs.map D.int) (some (-1 - ap)) none = (xs.drop (xs.length - (ap.toNat + 1))).map D.int := by
  unfold DL.cutD
  have e1 : HT.sIx (xs.map D.int).length 0 (some (-1 - ap)) = xs.length - (ap.toNat + 1) := by
    rw [List.length_map]
    show (if (-1 - ap) < 0 then ((-1 - ap) + (xs.length : Int)).toNat else min (-1 - ap).toNat xs.length) = _
    rw [if_pos (by omega)]
    omega
  have e2 : HT.sIx (xs.map D.int).length (xs.map D.int).length none = xs.length := by rw [List.length_map]; rfl
  rw [e1, e2, List.map_drop, List.take_of_length_le]
  rw [List.length_drop, List.length_map]
  omega
theorem sw_get {long : Int} {dr : List Drv} {i j : Nat} {p : Drv} (hp : dr[i]? = some p) (hj : j < long.toNat) : (dr.flatMap (swOf long))[i * long.toNat + j]? = some (swAt p j) := by
  have hl : ∀ dr : List Drv, (dr.flatMap (swOf long)).length = dr.length * long.toNat := fun dr => by
    induction dr with
    | nil => simp
    | cons x dr ih =>
      rw [List.flatMap_cons, List.length_append, ih, List.length_cons, Nat.succ_mul]
      have : (swOf long x).length = long.toNat := by unfold swOf; simp
      omega
  have hi := (List.getElem?_eq_some_iff.mp hp).1
  have e : dr = dr.take i ++ p :: dr.drop (i + 1) := by
    have := List.take_append_drop i dr
    rw [List.drop_eq_getElem_cons hi, (List.getElem?_eq_some_iff.mp hp).2] at this
    exact this.symm
  have l1 : ((dr.take i).flatMap (swOf long)).length = i * long.toNat := by rw [hl, List.length_take, Nat.min_eq_left (by omega)]
  have l2 : (swOf long p).length = long.toNat := by unfold swOf; simp
  rw [e, List.flatMap_append, List.flatMap_cons, List.getElem?_append_right (by omega), l1, Nat.add_sub_cancel_left, List.getElem?_append_left (by omega)]
  unfold swOf
  rw [List.getElem?_map, List.getElem?_range hj]; rfl
theorem sw_len2 {long : Int} : ∀ dr : List Drv, (dr.flatMap (swOf long)).length = dr.length * long.toNat
  | [] => by simp
  | x :: dr => by
    rw [List.flatMap_cons, List.length_append, sw_len2 dr, List.length_cons, Nat.succ_mul]
    have : (swOf long x).length = long.toNat := by unfold swOf; simp
    omega
theorem at_ind {many long : Int} {ag : List (Int × Int)} {p : Drv} (h : DOk many long ag p) (j : Nat) : SOk many (swAt p j) ∧ Ind ag (swAt p j) := by
  have z : SOk many [] ∧ Ind ag [] := ⟨⟨by simp, by simp⟩, ⟨by simp, by simp⟩⟩
  unfold swAt
  split
  · exact z
  · split
    · exact ⟨h.s, h.i⟩
    · exact z
structure Wk (S S' : DStore) (ag : List (Int × Int)) (ap : Int) (R : List (List Int)) (T : Nat) (kvs : List (L2.Key × D)) (L : List (List Int)) : Prop where
  k : Kp S S'
  d : S'[S.length]? = some (.dkk kvs)
  l : S'[S.length + 1]? = some (.lst (L.map tI))
  kl : kvs.length ≤ 14 * T
  v : ∀ b : Int, (valD kvs (.inl b)).getD (.lst []) = .lst ((occ R b T).map D.int)
  s1 : ∀ x ∈ L, PQ ag ap R x
  s2 : ∀ (s t : Nat) (a b : Int), PP ag ap R s t a b → t < T → [(s : Int), (t : Int), a, b] ∈ L
  ll : L.length ≤ 1000 * T
theorem body11 : ∀ ds S Q, G.fn 11 ds S Q → wpSs G c11 (startD n11.length ds) S { nx := fun _ S' => Q .non S', rt := Q } := by
  rintro ds S Q ⟨many, ag, rows, p, long, ap, dr, rfl, hp0, hw, l0, l16, a0, a16, hdl, hdo, hQ⟩
  have hal := hw.alen
  have hps := (List.getElem?_eq_some_iff.mp hp0).1
  generalize hRR : dr.flatMap (swOf long) = R at *
  have hRl : R.length = dr.length * long.toNat := by rw [← hRR, sw_len2]
  have lo : ∀ {S' : DStore}, S'[p]? = some (.lst (dr.map drD)) → lstOf S' (.ref p) = some (dr.map drD) := fun h => by simp only [lstOf, h]
  unfold c11 n11
  refine ss_split 2 (fun ρ S' => ∃ (kvs : List (L2.Key × D)) (L : List (List Int)) (r6 r7 r8 r9 r10 r11 r12 r13 r14 r15 r16 : Option D), Wk S S' ag ap R R.length kvs L ∧ ρ = [some (wD many ag rows), some (.ref p), some (.int long), some (.int ap), some (.ref S.length), some (.ref (S.length + 1)), r6, r7, r8, r9, r10, r11, r12, r13, r14, r15, r16]) (fun N hN => ?_) ?_
  · show wpSs G [_, _] _ _ _
    simp_arith only []
    have w0 : Wk S (S ++ [.dkk []] ++ [.lst []]) ag ap R 0 [] [] := by
      refine ⟨fun j c hj => ?_, by simp, by simp, by simp, fun b => by simp [valD_nil, occ], by simp, fun _ _ _ _ _ h => absurd h (by omega), by simp⟩
      have := (List.getElem?_eq_some_iff.mp hj).1
      rw [List.append_assoc, List.getElem?_append_left this]; exact hj
    refine ⟨trivial, dr.map drD, by simpa using w0.k _ _ hp0, ?_⟩
    refine walk_list (fun i ρ S' => ∃ (kvs : List (L2.Key × D)) (L : List (List Int)) (r7 r8 r9 r10 r11 r12 r13 r14 r15 r16 : Option D), Wk S S' ag ap R (i * long.toNat) kvs L ∧ ρ = [some (wD many ag rows), some (.ref p), some (.int long), some (.int ap), some (.ref S.length), some (.ref (S.length + 1)), some (.int ((i * long.toNat : Nat) : Int)), r7, r8, r9, r10, r11, r12, r13, r14, r15, r16]) ⟨[], [], _, _, _, _, _, _, _, _, _, _, by rw [Nat.zero_mul]; exact w0, by rw [Nat.zero_mul]; simp only [List.length_append, List.length_cons, List.length_nil]; rfl⟩ (fun i ρ S' h => by obtain ⟨_, _, r7, r8, r9, r10, r11, r12, r13, r14, r15, r16, hK, _⟩ := h; exact hK.k _ _ hp0) (fun i x ρ S1 hx hp => ?_) (fun ρ S1 hp => ?_)
    · obtain ⟨kvs, L, r7, r8, r9, r10, r11, r12, r13, r14, r15, r16, hW, rfl⟩ := hp
      rw [List.getElem?_map] at hx
      obtain ⟨dp, hdp, rfl⟩ := Option.map_eq_some_iff.mp hx
      have hi := (List.getElem?_eq_some_iff.mp hdp).1
      have hdpo := hdo dp (List.mem_of_getElem? hdp)
      have ep : drD dp = D.tup [tupI dp.1, oD dp.2] := rfl
      rw [ep]
      unfold DL.forTurn
      (try simp_arith only [])
      refine ⟨trivial, ?_⟩
      (repeat (refine And.intro (by first | omega | exact DL.mul_small_left (by omega) (by omega) | exact DL.mul_small_right (by omega) (by omega) | exact DL.div_om (by omega) (by omega) (by omega) | exact DL.cpow1 (by omega) (by omega) | exact ⟨by omega, by omega⟩ | exact DL.len_le (by (try simp only [List.length_map, List.length_append, List.length_cons, List.length_nil]); omega) | exact DL.len_lt (by (try simp only [List.length_map, List.length_append, List.length_cons, List.length_nil]); omega) | trivial | decide) ?_))
      refine walk_range (fun j ρ S' => ∃ (kvs : List (L2.Key × D)) (L : List (List Int)) (r9 r10 r11 r12 r13 r14 r15 r16 : Option D), Wk S S' ag ap R (i * long.toNat + j) kvs L ∧ ρ = [some (wD many ag rows), some (.ref p), some (.int long), some (.int ap), some (.ref S.length), some (.ref (S.length + 1)), some (.int ((i * long.toNat + j : Nat) : Int)), some (tupI dp.1), some (oD dp.2), r9, r10, r11, r12, r13, r14, r15, r16]) ⟨kvs, L, _, _, _, _, _, _, _, _, hW, rfl⟩ (fun _ _ _ _ => trivial) (fun j ρ S2 hj hp => ?_) (fun ρ S2 hp => ?_)
      · obtain ⟨kvs, L, r9, r10, r11, r12, r13, r14, r15, r16, hW, rfl⟩ := hp
        have hj2 : j < long.toNat := by omega
        have hget : R[i * long.toNat + j]? = some (swAt dp j) := by rw [← hRR]; exact sw_get hdp hj2
        have eh : R.getD (i * long.toNat + j) [] = swAt dp j := by rw [List.getD_eq_getElem?_getD, hget]; rfl
        have hTl := (List.getElem?_eq_some_iff.mp hget).1
        obtain ⟨hso, hind⟩ := at_ind hdpo j
        have hTs : i * long.toNat + j ≤ 192 := by
          have h1 := Nat.mul_le_mul (show i ≤ 11 by omega) (show long.toNat ≤ 16 by omega)
          omega
        generalize hT : i * long.toNat + j = T at *
        unfold DL.forTurn
        rw [g_name]
        simp only [List.set_cons_succ, List.set_cons_zero]
        refine ss_split 1 (fun ρ S' => S' = S2 ∧ ∃ r9 : Option D, ρ = [some (wD many ag rows), some (.ref p), some (.int long), some (.int ap), some (.ref S.length), some (.ref (S.length + 1)), some (.int (T : Int)), some (tupI dp.1), some (oD dp.2), r9, some (tupI (swAt dp j)), r11, r12, r13, r14, r15, r16]) (fun N hN => ?_) ?_
        · show wpSs G [_] _ _ _
          obtain ⟨ys, o⟩ := dp
          cases o with
          | none =>
            simp only [oD]
            simp_arith only []
            exact hN _ _ ⟨rfl, _, rfl⟩
          | some f =>
            simp only [oD]
            simp_arith only []
            rw [if_pos (show DL.isNon (.int f) = false from rfl)]
            refine if_i (fun h => ?_) fun h => ?_
            · have e : swAt (ys, some f) j = ys := by unfold swAt; simp only; rw [if_pos h]
              rw [e] at hN
              exact hN _ _ ⟨rfl, _, rfl⟩
            · have e : swAt (ys, some f) j = [] := by unfold swAt; simp only; rw [if_neg h]
              rw [e] at hN
              exact hN _ _ ⟨rfl, _, rfl⟩
        rintro ρ S' ⟨rfl, r9, rfl⟩
        generalize hHH : swAt dp j = here at *
        refine ss_split 1 (fun ρ S' => ∃ (kvs : List (L2.Key × D)) (r11 : Option D), Kp S S' ∧ S'[S.length]? = some (.dkk kvs) ∧ S'[S.length + 1]? = some (.lst (L.map tI)) ∧ kvs.length ≤ 14 * (T + 1) ∧ (∀ b : Int, (valD kvs (.inl b)).getD (.lst []) = .lst ((occ R b (T + 1)).map D.int)) ∧ ρ = [some (wD many ag rows), some (.ref p), some (.int long), some (.int ap), some (.ref S.length), some (.ref (S.length + 1)), some (.int (T : Int)), some (tupI dp.1), some (oD dp.2), r9, some (tupI here), r11, r12, r13, r14, r15, r16]) (fun N hN => ?_) ?_
        · show wpSs G [_] _ _ _
          simp_arith only []
          unfold tupI
          (try simp_arith only [])
          refine walk_list (fun k ρ S' => ∃ (kvs : List (L2.Key × D)) (r11 : Option D), Kp S S' ∧ S'[S.length]? = some (.dkk kvs) ∧ S'[S.length + 1]? = some (.lst (L.map tI)) ∧ kvs.length ≤ 14 * T + k ∧ (∀ b : Int, (valD kvs (.inl b)).getD (.lst []) = .lst ((occ R b T ++ if b ∈ here.take k then [(T : Int)] else []).map D.int)) ∧ ρ = [some (wD many ag rows), some (.ref p), some (.int long), some (.int ap), some (.ref S.length), some (.ref (S.length + 1)), some (.int (T : Int)), some (tupI dp.1), some (oD dp.2), r9, some (tupI here), r11, r12, r13, r14, r15, r16]) ⟨kvs, r11, hW.k, hW.d, hW.l, by have := hW.kl; omega, fun b => by rw [hW.v b]; simp, rfl⟩ (fun _ _ _ _ => trivial) (fun k x ρ S3 hx hp => ?_) (fun ρ S3 hp => ?_)
          · obtain ⟨kvs, r11, hK, hd, hl, hkl, hv, rfl⟩ := hp
            rw [List.getElem?_map] at hx
            obtain ⟨y, hy, rfl⟩ := Option.map_eq_some_iff.mp hx
            have hk := (List.getElem?_eq_some_iff.mp hy).1
            have et : here.take (k + 1) = here.take k ++ [y] := by rw [List.take_add_one, hy]; rfl
            have hyn : y ∉ here.take k := fun hm => by
              obtain ⟨m, hm⟩ := List.getElem?_of_mem hm
              rw [List.getElem?_take] at hm
              split at hm
              · rename_i hmk
                obtain ⟨u1, u2⟩ := List.getElem?_eq_some_iff.mp hm
                obtain ⟨u3, u4⟩ := List.getElem?_eq_some_iff.mp hy
                have := List.pairwise_iff_getElem.mp hind.nd m k u1 u3 hmk
                rw [u2, u4] at this
                exact this rfl
              · cases hm
            have hvy := hv y
            rw [if_neg hyn, List.append_nil] at hvy
            have hol := occ_len R y T
            have hkk := hso.len
            unfold DL.forTurn
            (try simp_arith only [])
            refine ⟨⟨kvs, dkk_at hd⟩, kvs, .inl y, dkk_at hd, rfl, ?_⟩
            rw [hvy]
            (try simp_arith only [])
            refine ⟨len_le (by simp; omega), ?_⟩
            refine ⟨_, kvs, .inl y, rfl, hd, rfl, len_lt (by omega), _, _, kp_set hK (Nat.le_refl _), set_get hd, by rw [List.getElem?_set_ne (by omega)]; exact hl, by have := len_put (kvs := kvs) (k := Sum.inl y) (d := .lst ((occ R y T).map D.int ++ [.int (T : Int)])); omega, fun b => ?_, rfl⟩
            rw [valD_put, et]
            by_cases e : b = y
            · subst e
              simp
            · rw [if_neg (fun z => e (Sum.inl.inj z)), hv b]
              simp [e]
          · obtain ⟨kvs, r11, hK, hd, hl, hkl, hv, rfl⟩ := hp
            rw [List.length_map, List.take_length] at hv
            rw [List.length_map] at hkl
            simp only [s_nilA]
            refine hN _ _ ⟨kvs, r11, hK, hd, hl, by have := hso.len; omega, fun b => ?_, rfl⟩
            rw [hv b, occ_succ, eh]
        rintro ρ S3 ⟨kvs, r11, hK, hd, hl, hkl, hv, rfl⟩
        have fin : ∀ (q : List Int), q ∈ L → PQ ag ap R q := hW.s1
        refine ss_split 1 (fun ρ S' => ∃ (L' : List (List Int)) (r11 r12 r13 r14 r15 r16 : Option D), Kp S S' ∧ S'[S.length]? = some (.dkk kvs) ∧ S'[S.length + 1]? = some (.lst (L'.map tI)) ∧ (∀ x ∈ L', PQ ag ap R x) ∧ (∀ (s t : Nat) (a b : Int), PP ag ap R s t a b → t < T + 1 → [(s : Int), (t : Int), a, b] ∈ L') ∧ L'.length ≤ 1000 * (T + 1) ∧ ρ = [some (wD many ag rows), some (.ref p), some (.int long), some (.int ap), some (.ref S.length), some (.ref (S.length + 1)), some (.int (T : Int)), some (tupI dp.1), some (oD dp.2), r9, some (tupI here), r11, r12, r13, r14, r15, r16]) (fun N hN => ?_) ?_
        · show wpSs G [_] _ _ _
          have ew : wD many ag rows = D.tup [.int many, .tup (ag.map prD), .tup (rows.map rowD)] := rfl
          rw [ew]
          simp_arith only []
          rw [← ew]
          refine walk_list (fun k ρ S' => ∃ (L' : List (List Int)) (r11 r12 r13 r14 r15 r16 : Option D), Kp S S' ∧ S'[S.length]? = some (.dkk kvs) ∧ S'[S.length + 1]? = some (.lst (L'.map tI)) ∧ (∀ x ∈ L', PQ ag ap R x) ∧ (∀ (s t : Nat) (a b : Int), PP ag ap R s t a b → t < T → [(s : Int), (t : Int), a, b] ∈ L') ∧ (∀ p' ∈ ag.take k, ∀ (s : Nat) (a b : Int), (p' = (a, b) ∨ p' = (b, a)) → PP ag ap R s T a b → [(s : Int), (T : Int), a, b] ∈ L') ∧ L'.length ≤ 1000 * T + 34 * k ∧ ρ = [some (wD many ag rows), some (.ref p), some (.int long), some (.int ap), some (.ref S.length), some (.ref (S.length + 1)), some (.int (T : Int)), some (tupI dp.1), some (oD dp.2), r9, some (tupI here), r11, r12, r13, r14, r15, r16]) ⟨L, _, _, _, _, _, _, hK, hd, hl, hW.s1, hW.s2, by simp, by have := hW.ll; omega, rfl⟩ (fun _ _ _ _ => trivial) (fun k x ρ S4 hx hp => ?_) (fun ρ S4 hp => ?_)
          · obtain ⟨L1, r11, r12, r13, r14, r15, r16, hK, hd, hl, hs1, hs2, hs3, hll, rfl⟩ := hp
            rw [List.getElem?_map] at hx
            obtain ⟨pr, hpr, rfl⟩ := Option.map_eq_some_iff.mp hx
            have hk := (List.getElem?_eq_some_iff.mp hpr).1
            have hprm := List.mem_of_getElem? hpr
            have et : ag.take (k + 1) = ag.take k ++ [pr] := by rw [List.take_add_one, hpr]; rfl
            obtain ⟨x, y⟩ := pr
            have epr : prD (x, y) = D.tup [.int x, .int y] := rfl
            rw [epr]
            unfold DL.forTurn
            (try simp_arith only [])
            refine ⟨trivial, ?_⟩
            have eit : [D.tup [.int x, .int y], D.tup [.int y, .int x]] = [(x, y), (y, x)].map prD := rfl
            refine walk_list (fun m ρ S' => ∃ (L' : List (List Int)) (r11 r14 r15 r16 : Option D), Kp S S' ∧ S'[S.length]? = some (.dkk kvs) ∧ S'[S.length + 1]? = some (.lst (L'.map tI)) ∧ (∀ x ∈ L', PQ ag ap R x) ∧ (∀ q ∈ L1, q ∈ L') ∧ (∀ p' ∈ [(x, y), (y, x)].take m, ∀ (s : Nat), PP ag ap R s T p'.1 p'.2 → [(s : Int), (T : Int), p'.1, p'.2] ∈ L') ∧ L'.length ≤ 1000 * T + 34 * k + 17 * m ∧ ρ = [some (wD many ag rows), some (.ref p), some (.int long), some (.int ap), some (.ref S.length), some (.ref (S.length + 1)), some (.int (T : Int)), some (tupI dp.1), some (oD dp.2), r9, some (tupI here), r11, some (.int x), some (.int y), r14, r15, r16]) ⟨L1, _, _, _, _, hK, hd, hl, hs1, fun _ h => h, by simp, by omega, rfl⟩ (fun _ _ _ _ => trivial) (fun m z ρ S5 hz hp => ?_) (fun ρ S5 hp => ?_)
            · obtain ⟨L2, r11, r14, r15, r16, hK, hd, hl, hs1', hsub, hs4, hll', rfl⟩ := hp
              rw [eit, List.getElem?_map] at hz
              obtain ⟨⟨a, b⟩, hab, rfl⟩ := Option.map_eq_some_iff.mp hz
              have habm := List.mem_of_getElem? hab
              have hm2 := (List.getElem?_eq_some_iff.mp hab).1
              simp only [List.length_cons, List.length_nil] at hm2
              have eta : [(x, y), (y, x)].take (m + 1) = [(x, y), (y, x)].take m ++ [(a, b)] := by rw [List.take_add_one, hab]; rfl
              have hAg : Ag ag a b := by
                simp only [List.mem_cons, List.not_mem_nil, or_false, Prod.mk.injEq] at habm
                rcases habm with ⟨rfl, rfl⟩ | ⟨rfl, rfl⟩
                · exact .inl hprm
                · exact .inr hprm
              have epb : prD (a, b) = D.tup [.int a, .int b] := rfl
              rw [epb]
              have keep : (∀ (s : Nat), PP ag ap R s T a b → [(s : Int), (T : Int), a, b] ∈ L2) → ∀ p' ∈ [(x, y), (y, x)].take (m + 1), ∀ (s : Nat), PP ag ap R s T p'.1 p'.2 → [(s : Int), (T : Int), p'.1, p'.2] ∈ L2 := fun h p' hp' s hs => by
                rw [eta] at hp'
                rcases List.mem_append.mp hp' with hp' | hp'
                · exact hs4 p' hp' s hs
                · rw [List.mem_singleton.mp hp'] at hs ⊢
                  exact h s hs
              unfold DL.forTurn tupI
              (try simp_arith only [])
              refine ⟨trivial, in_ints ?_⟩
              by_cases hin : b ∈ here
              rotate_left
              · rw [decide_eq_false hin]
                (try simp_arith only [])
                exact ⟨L2, _, _, _, _, hK, hd, hl, hs1', hsub, keep fun s hs => absurd (eh ▸ hs.ib) hin, by omega, rfl⟩
              · rw [decide_eq_true hin]
                (try simp_arith only [])
                refine ⟨⟨kvs, dkk_at hd⟩, kvs, .inl a, dkk_at hd, rfl, ?_⟩
                rw [hv a]
                refine ⟨_, rfl, ?_⟩
                rw [cut_tail a0]
                simp only [newL]
                (try simp_arith only [])
                have hc1 : ∀ z ∈ (occ R a (T + 1)).drop ((occ R a (T + 1)).length - (ap.toNat + 1)), ∃ n : Nat, z = n ∧ n < T + 1 ∧ a ∈ R.getD n [] := fun z hz => (occ_mem R).mp (List.mem_of_mem_drop hz)
                have hc2 : ∀ n : Nat, n < T + 1 → a ∈ R.getD n [] → (T : Int) - n ≤ ap → (n : Int) ∈ (occ R a (T + 1)).drop ((occ R a (T + 1)).length - (ap.toNat + 1)) := fun n h1 h2 h3 => near_mem (occ_inc R a (T + 1)) (fun z hz => by
                  obtain ⟨n', rfl, h4, _⟩ := (occ_mem R).mp hz
                  omega) ((occ_mem R).mpr ⟨n, rfl, h1, h2⟩) h3
                have hcl : ((occ R a (T + 1)).drop ((occ R a (T + 1)).length - (ap.toNat + 1))).length ≤ 17 := by rw [List.length_drop]; omega
                generalize (occ R a (T + 1)).drop ((occ R a (T + 1)).length - (ap.toNat + 1)) = cs at hc1 hc2 hcl ⊢
                refine gather_inv (fun j acc S' => S' = S5 ∧ ∃ ys : List Int, acc = ys.map D.int ∧ ys.length ≤ j ∧ (∀ z ∈ ys, z ∈ cs ∧ (T : Int) - z ≤ ap ∧ (z < T ∨ a < b)) ∧ (∀ z ∈ cs.take j, (T : Int) - z ≤ ap → (z < T ∨ a < b) → z ∈ ys)) (by rw [List.length_map]; exact len_le (by omega)) ⟨rfl, [], rfl, by simp, by simp, by simp⟩ (fun j acc S' h => ⟨trivial, by obtain ⟨_, ys, rfl, h, _⟩ := h; rw [List.length_map]; exact h⟩) (fun j z acc S' hz h N' n1 n2 => ?_) (fun acc S' h => ?_)
                · obtain ⟨rfl, ys, rfl, hyl, hy1, hy2⟩ := h
                  rw [List.getElem?_map] at hz
                  obtain ⟨z, hz2, rfl⟩ := Option.map_eq_some_iff.mp hz
                  have hzm := List.mem_of_getElem? hz2
                  have etz : cs.take (j + 1) = cs.take j ++ [z] := by rw [List.take_add_one, hz2]; rfl
                  have yes : (T : Int) - z ≤ ap → (z < T ∨ a < b) → N' (some (D.int z)) S' := fun u1 u2 => by
                    refine n1 _ _ ⟨rfl, ys ++ [z], by rw [List.map_append]; rfl, by simp; omega, fun w hw => ?_, fun w hw v1 v2 => ?_⟩
                    · rcases List.mem_append.mp hw with hw | hw
                      · exact hy1 w hw
                      · rw [List.mem_singleton.mp hw]; exact ⟨hzm, u1, u2⟩
                    · rw [etz] at hw
                      rcases List.mem_append.mp hw with hw | hw
                      · exact List.mem_append_left _ (hy2 w hw v1 v2)
                      · exact List.mem_append_right _ hw
                  have no : ¬ ((T : Int) - z ≤ ap ∧ (z < T ∨ a < b)) → N' none S' := fun u => by
                    refine n2 _ ⟨rfl, ys, rfl, by omega, hy1, fun w hw v1 v2 => ?_⟩
                    rw [etz] at hw
                    rcases List.mem_append.mp hw with hw | hw
                    · exact hy2 w hw v1 v2
                    · rw [List.mem_singleton.mp hw] at v1 v2
                      exact absurd ⟨v1, v2⟩ u
                  unfold lcTurn
                  (try simp_arith only [])
                  refine if_i (fun u1 => ?_) fun u1 => ?_
                  · refine if_i (fun u2 => ?_) fun u2 => ?_
                    · (try simp_arith only [])
                      exact yes u1 (.inl u2)
                    · by_cases u3 : a < b
                      · rw [if_pos u3]
                        exact yes u1 (.inr u3)
                      · rw [if_neg u3]
                        exact no fun h => h.2.elim u2 u3
                  · (try simp_arith only [])
                    exact no fun h => u1 h.1
                · obtain ⟨rfl, ys, rfl, hyl, hy1, hy2⟩ := h
                  rw [List.length_map] at hyl hy2
                  rw [List.take_length] at hy2
                  refine ⟨lat hl, ?_⟩
                  refine gather_inv (fun j acc S6 => S6 = S' ∧ acc = ((ys.take j).map fun z => [z, (T : Int), a, b]).map tI) (by rw [List.length_map]; exact len_le (by omega)) ⟨rfl, by simp⟩ (fun j acc S6 h => ⟨trivial, by rw [h.2, List.length_map, List.length_map, List.length_take]; omega⟩) (fun j z acc S6 hz h N' n1 n2 => ?_) (fun acc S6 h => ?_)
                  · obtain ⟨rfl, rfl⟩ := h
                    rw [List.getElem?_map] at hz
                    obtain ⟨z, hz2, rfl⟩ := Option.map_eq_some_iff.mp hz
                    unfold lcTurn
                    (try simp_arith only [])
                    refine n1 _ _ ⟨rfl, ?_⟩
                    rw [List.take_add_one, hz2]
                    simp [tI]
                  · obtain ⟨rfl, rfl⟩ := h
                    rw [List.length_map, List.take_length]
                    refine ⟨_, _, hl, rfl, by rw [List.length_map, List.length_map, List.length_map]; exact len_le (by omega), L2 ++ ys.map (fun z => [z, (T : Int), a, b]), _, _, _, _, kp_set hK (by omega), by rw [List.getElem?_set_ne (by omega)]; exact hd, by rw [set_get hl, List.map_append], fun q hq => ?_, fun q hq => List.mem_append_left _ (hsub q hq), fun p' hp' s hs => ?_, by rw [List.length_append, List.length_map]; omega, rfl⟩
                    · rcases List.mem_append.mp hq with hq | hq
                      · exact hs1' q hq
                      · obtain ⟨z, hz, rfl⟩ := List.mem_map.mp hq
                        obtain ⟨z1, z2, z3⟩ := hy1 z hz
                        obtain ⟨n, rfl, n1, n2⟩ := hc1 z z1
                        exact ⟨n, T, a, b, rfl, by omega, hTl, by omega, n2, by rw [eh]; exact hin, hAg, z3.imp (fun h => by omega) id⟩
                    · replace hp' : p' ∈ [(x, y), (y, x)].take (m + 1) := hp'
                      rw [eta] at hp'
                      rcases List.mem_append.mp hp' with hp' | hp'
                      · exact List.mem_append_left _ (hs4 p' hp' s hs)
                      · rw [List.mem_singleton.mp hp'] at hs ⊢
                        refine List.mem_append_right _ (List.mem_map.mpr ⟨(s : Int), ?_, rfl⟩)
                        have h1 := hs.st
                        have h2 := hs.near
                        refine hy2 _ (hc2 s (by omega) hs.ia (by omega)) (by omega) ?_
                        rcases hs.w with w | w
                        · exact .inl (by omega)
                        · exact .inr w
            · obtain ⟨L2, r11, r14, r15, r16, hK, hd, hl, hs1', hsub, hs4, hll', rfl⟩ := hp
              simp only [s_nilA]
              refine ⟨L2, _, _, _, _, _, _, hK, hd, hl, hs1', fun s t a b h h' => hsub _ (hs2 s t a b h h'), fun p' hp' s a b hpp hh => ?_, by simp only [List.length_cons, List.length_nil] at hll'; omega, rfl⟩
              rw [et] at hp'
              rcases List.mem_append.mp hp' with hp' | hp'
              · exact hsub _ (hs3 p' hp' s a b hpp hh)
              · have e9 := List.mem_singleton.mp hp'
                rw [e9] at hpp
                rcases hpp with hpp | hpp
                · obtain ⟨e1, e2⟩ := Prod.mk.inj hpp
                  rw [← e1, ← e2] at hh ⊢
                  exact hs4 (x, y) (by simp) s hh
                · obtain ⟨e1, e2⟩ := Prod.mk.inj hpp
                  rw [← e1, ← e2] at hh ⊢
                  exact hs4 (y, x) (by simp) s hh
          · obtain ⟨L1, r11, r12, r13, r14, r15, r16, hK, hd, hl, hs1, hs2, hs3, hll, rfl⟩ := hp
            rw [List.length_map, List.take_length] at hs3
            rw [List.length_map] at hll
            simp only [s_nilA]
            refine hN _ _ ⟨L1, _, _, _, _, _, _, hK, hd, hl, hs1, fun s t a b h h' => ?_, by omega, rfl⟩
            by_cases e : t = T
            · subst e
              rcases h.ag with hg | hg
              · exact hs3 _ hg s a b (.inl rfl) h
              · exact hs3 _ hg s a b (.inr rfl) h
            · exact hs2 s t a b h (by omega)
        rintro ρ S4 ⟨L', r11, r12, r13, r14, r15, r16, hK, hd, hl, hs1, hs2, hll, rfl⟩
        show wpSs G [_] _ _ _
        simp_arith only []
        have eT : i * long.toNat + (j + 1) = T + 1 := by omega
        refine ⟨kvs, L', _, _, _, _, _, _, _, _, by rw [eT]; exact ⟨hK, hd, hl, hkl, hv, hs1, hs2, hll⟩, by rw [eT]; rfl⟩
      · obtain ⟨kvs, L, r9, r10, r11, r12, r13, r14, r15, r16, hW, rfl⟩ := hp
        simp only [s_nilA]
        have e : i * long.toNat + (long + 1 - 1).toNat = (i + 1) * long.toNat := by rw [Nat.succ_mul]; omega
        rw [e] at hW ⊢
        exact ⟨kvs, L, _, _, _, _, _, _, _, _, _, _, hW, rfl⟩
    · obtain ⟨kvs, L, r7, r8, r9, r10, r11, r12, r13, r14, r15, r16, hW, rfl⟩ := hp
      rw [List.length_map, ← hRl] at hW
      simp only [s_nilA]
      exact hN _ _ ⟨kvs, L, _, _, _, _, _, _, _, _, _, _, _, hW, rfl⟩
  rintro ρ S1 ⟨kvs, L, r6, r7, r8, r9, r10, r11, r12, r13, r14, r15, r16, hW, rfl⟩
  show wpSs G [_] _ _ _
  simp_arith only []
  have hall : ∀ q, q ∈ L ↔ PQ ag ap R q := fun q => ⟨hW.s1 q, by
    rintro ⟨s, t, a, b, rfl, h⟩
    exact hW.s2 s t a b h h.len⟩
  refine nil_rowsR hW.l (QB := fun b => _) ?_
  cases hLe : L.isEmpty with
  | true =>
    have hL0 := List.isEmpty_iff.mp hLe
    (try simp_arith only [])
    refine hQ _ S1 hW.k (.inl ⟨rfl, fun q hq => ?_⟩)
    have := (hall q).mpr hq
    rw [hL0] at this
    cases this
  | false =>
    (try simp_arith only [])
    refine ⟨L, by simp only [lstOf, hW.l], fun r hr => ?_, fun L' hp hs' => ?_⟩
    · obtain ⟨s, t, a, b, rfl, _⟩ := (hall r).mp hr
      simp
    · simp only [newL]
      cases L' with
      | nil =>
        have := hp.length_eq
        cases L with
        | nil => cases hLe
        | cons x L => simp at this
      | cons q0 L' =>
        rw [List.map_cons]
        (try simp_arith only [])
        have hm : ∀ q, q ∈ q0 :: L' ↔ PQ ag ap R q := fun q => (hp.mem_iff).trans (hall q)
        refine hQ _ S1 hW.k (.inr ⟨q0, rfl, (hm q0).mp (List.mem_cons_self ..), fun q hq => ?_⟩)
        rcases List.mem_cons.mp ((hm q).mpr hq) with e | e
        · rw [e]; exact List.le_refl _
        · exact (List.pairwise_cons.mp hs').1 q e
/-! ### the law's beats -/
theorem ab_of {sd m : Int} (h : sd = 1 ∨ sd = -1) (m0 : 0 ≤ m) {t : Int} (t0 : 0 ≤ t) (t1 : t ≤ m) : -m ≤ sd * t ∧ sd * t ≤ m := by
  rcases h with rfl | rfl
  · rw [Int.one_mul]; omega
  · rw [Int.neg_mul, Int.one_mul]; omega
theorem body10 : ∀ ds S Q, G.fn 10 ds S Q → wpSs G c10 (startD n10.length ds) S { nx := fun _ S' => Q .non S', rt := Q } := by
  rintro ds S Q ⟨n, T, most, rfl, hP, hT, m1, m100, hQ⟩
  have hn := hP.lt
  unfold c10 n10
  simp_arith only [G6]
  refine takeP (hP.app) (by omega) (by omega) (by omega) fun w S1 hw0 hw1 hP hF _ => ?_
  have g := hF.get (i := S.length) (c := .lst []) (by omega) (by simp)
  replace hF := (Fr.app (cs := [.lst []])).trans hF
  (try simp_arith only [])
  (repeat (refine And.intro (by first | omega | exact DL.mul_small_left (by omega) (by omega) | exact DL.mul_small_right (by omega) (by omega) | exact DL.div_om (by omega) (by omega) (by omega) | exact DL.cpow1 (by omega) (by omega) | exact ⟨by omega, by omega⟩ | exact DL.len_le (by (try simp only [List.length_map, List.length_append, List.length_cons, List.length_nil]); omega) | exact DL.len_lt (by (try simp only [List.length_map, List.length_append, List.length_cons, List.length_nil]); omega) | trivial | decide) ?_))
  refine walk_range (fun i ρ S' => ∃ (bs : List (Int × Int)) (sd : Int) (r2 r5 : Option D), ρ = [some (.ref n), some (.int most), r2, some (.ref S.length), some (.int sd), r5] ∧ (sd = 1 ∨ sd = -1) ∧ S'[S.length]? = some (.lst (bs.map prD)) ∧ bs.length = i ∧ (∀ p ∈ bs, -1000000 ≤ p.1 ∧ p.1 ≤ 1000000 ∧ -most ≤ p.2 ∧ p.2 ≤ most) ∧ Pot n (T + 1 + 7 * i) S' ∧ Fr n S S')
    ⟨[], 1, _, _, rfl, .inl rfl, g, rfl, (fun p h => nomatch h), hP.mono (by omega), hF⟩ (fun _ _ _ _ => trivial) (fun i ρ S' hi hp => ?_) (fun ρ S' hp => ?_)
  · obtain ⟨bs, sd, r2, r5, rfl, hsd, g, hl, hb, hP, hF⟩ := hp
    unfold DL.forTurn
    (try simp_arith only [G7])
    refine pickP hP (by omega) fun y S2 hy hP hF2 _ => ?_
    obtain ⟨sd', rfl, hsd'⟩ : ∃ sd' : Int, y = .int sd' ∧ (sd' = 1 ∨ sd' = -1) := by
      simp only [List.mem_cons, List.not_mem_nil, or_false] at hy
      rcases hy with rfl | rfl | rfl
      · exact ⟨_, rfl, by omega⟩
      · exact ⟨_, rfl, by omega⟩
      · exact ⟨_, rfl, hsd⟩
    replace g := hF2.get (by omega) g
    replace hF := hF.trans hF2
    (try simp_arith only [G6])
    refine takeP hP (by omega) (by omega) (by omega) fun x1 S3 x10 x11 hP hF2 _ => ?_
    replace g := hF2.get (by omega) g
    replace hF := hF.trans hF2
    (try simp_arith only [G6])
    refine takeP hP (by omega) (by omega) (by omega) fun x2 S4 x20 x21 hP hF2 _ => ?_
    replace g := hF2.get (by omega) g
    replace hF := hF.trans hF2
    (try simp_arith only [G7])
    refine DL.pickI (lo := -1000000) (hi := 1000000) hP (by omega) (by simp only [DL.allI, and_true]; omega) fun wh S5 w0 w1 hP hF2 _ => ?_
    replace g := hF2.get (by omega) g
    replace hF := hF.trans hF2
    have h1 := ab_of hsd' (show 0 ≤ most by omega) (show 0 ≤ most by omega) (Int.le_refl most)
    have hmk : ∀ z : Int, MulOk sd' z := fun z => mul_small_left (by omega) (by omega)
    (try simp_arith only [G6])
    refine ⟨lat g, hmk _, hmk _, ?_⟩
    refine takeP hP (by omega) (by omega) (by omega) fun x3 S6 x30 x31 hP hF2 _ => ?_
    replace g := hF2.get (by omega) g
    replace hF := hF.trans hF2
    have h2 := ab_of hsd' (show 0 ≤ most by omega) x30 (show x3 ≤ most by omega)
    (try simp_arith only [G7])
    refine ⟨hmk _, ?_⟩
    refine DL.pickI (lo := -most) (hi := most) hP (by omega) (by simp only [DL.allI, and_true]; omega) fun fo S7 fo0 fo1 hP hF2 _ => ?_
    replace g := hF2.get (by omega) g
    replace hF := hF.trans hF2
    (try simp_arith only [])
    refine ⟨_, g, by rw [List.length_map]; exact len_lt (by omega), bs ++ [(wh, fo)], sd', _, _, rfl, hsd', ?_, by simp [hl], fun p hp => ?_, (hP.set (by omega)).mono (by omega), hF.set (by omega)⟩
    · rw [List.getElem?_set_self (List.getElem?_eq_some_iff.mp g).1]; simp [prD]
    · rcases List.mem_append.mp hp with h | h
      · exact hb p h
      · rw [List.mem_singleton.mp h]; exact ⟨w0, w1, fo0, fo1⟩
  · obtain ⟨bs, sd, r2, r5, rfl, hsd, g, hl, hb, hP, hF⟩ := hp
    (try simp_arith only [])
    exact hQ _ bs S' ⟨by omega, by omega, hb⟩ g (hP.mono (by omega)) hF (by simp)
/-! ### plain laws -/
theorem okWs_map {α : Type} (p : α → PyData) (l : List α) (h : ∀ x ∈ l, okW (p x) = true) : okWs (l.map p) = true := by
  induction l with
  | nil => rfl
  | cons x l ih => simp only [List.map_cons, okWs, h x (List.mem_cons_self ..), ih fun y hy => h y (List.mem_cons_of_mem _ hy)]; rfl
theorem szWs_map {α : Type} (p : α → PyData) (c : Nat) (l : List α) (h : ∀ x ∈ l, szW (p x) ≤ c) : szWs (l.map p) ≤ (c + 2) * l.length := by
  induction l with
  | nil => exact Nat.zero_le _
  | cons x l ih =>
    have h1 := h x (List.mem_cons_self ..)
    have h2 := ih fun y hy => h y (List.mem_cons_of_mem _ hy)
    simp only [List.map_cons, szWs, List.length_cons, Nat.mul_add]
    omega
theorem tupW {α : Type} (p : α → PyData) (l : List α) (c d n : Nat) (h : ∀ x ∈ l, okW (p x) = true ∧ szW (p x) ≤ c ∧ (p x).depth ≤ d) (hn : l.length ≤ n) : okW (.tuple (l.map p)) = true ∧ szW (.tuple (l.map p)) ≤ (c + 2) * n + 8 ∧ (PyData.tuple (l.map p)).depth ≤ d + 1 := by
  have h1 := okWs_map p l fun x hx => (h x hx).1
  have h2 := szWs_map p c l fun x hx => (h x hx).2.1
  have h3 := dep_map p d l fun x hx => (h x hx).2.2
  have h4 : (c + 2) * l.length ≤ (c + 2) * n := Nat.mul_le_mul_left _ hn
  refine ⟨h1, ?_, ?_⟩
  · simp only [szW]; omega
  · simp only [PyData.depth]; omega
theorem small_ok {x : Int} (h : x.natAbs < 10 ^ 12) : okW (.int x) = true := decide_eq_true (Nat.lt_of_lt_of_le h (Nat.pow_le_pow_right (by decide) (by decide)))
section
variable {ag : List (Int × Int)} {ap many long : Int} {R : List (List Int)}
theorem fa_uniq {r r' : D} (h : FA ag ap R r) (h' : FA ag ap R r') : r' = r := by
  rcases h with ⟨rfl, h⟩ | ⟨q, rfl, hq, hl⟩
  · rcases h' with ⟨rfl, _⟩ | ⟨q', rfl, hq', _⟩
    · rfl
    · exact absurd hq' (h q')
  · rcases h' with ⟨rfl, h'⟩ | ⟨q', rfl, hq', hl'⟩
    · exact absurd hq (h' q)
    · rw [List.le_antisymm (hl q' hq') (hl' q hq)]
theorem fa_non (h : ∀ q, ¬ PQ ag ap R q) {r : D} (hr : FA ag ap R r) : r = .non := by
  rcases hr with ⟨rfl, _⟩ | ⟨q, _, hq, _⟩
  · rfl
  · exact absurd hq (h q)
theorem fa_ne {r : D} (h : FA ag ap R r) {S : DStore} {QB : Bool → Prop} (q : QB false) : cmpD .NotEq S r r QB := by
  rcases h with ⟨rfl, _⟩ | ⟨x, rfl, ⟨s, t, a, b, rfl, _⟩, _⟩
  · exact ne_same (p := .none) (fun _ h => nomatch h) (fun _ h => nomatch h) (fun _ h => nomatch h) rfl rfl q
  · exact ne_same (p := .tuple ([(s : Int), (t : Int), a, b].map .int)) (fun _ h => nomatch h) (fun _ h => nomatch h) (fun _ h => nomatch h) rfl (by simp [SeqAt.shaped, PyData.canLay0, PyData.canLayAll0, PyData.depth, PyData.depthAll]) q
theorem fa_repr (hR : ∀ r ∈ R, SOk many r) (hm : many ≤ 12) (hl : R.length ≤ 1000) {r : D} (h : FA ag ap R r) : ∃ p : PyData, ∀ {S : DStore} {m : Bool} {Q : QE}, Q (.str p.shown) S → biD .repr1 m [r] S Q := by
  rcases h with ⟨rfl, _⟩ | ⟨x, rfl, ⟨s, t, a, b, rfl, h⟩, _⟩
  · exact ⟨.none, fun {S m Q} q => reprW (p := .none) rfl rfl (Nat.le_of_ble_eq_true rfl) (Nat.le_of_ble_eq_true rfl) q⟩
  · have hget : ∀ (i : Nat) (c : Int), c ∈ R.getD i [] → c.natAbs < 10 ^ 12 := fun i c hc => by
      rw [List.getD_eq_getElem?_getD] at hc
      cases e : R[i]? with
      | none => rw [e] at hc; cases hc
      | some r =>
        rw [e] at hc
        have := (hR r (List.mem_of_getElem? e)).sm c hc
        omega
    obtain ⟨a1, b1, c1⟩ := tupW PyData.int [(s : Int), (t : Int), a, b] 504 5 14 (fun x hx => ⟨small_ok (by
      have h1 := h.st; have h2 := h.len
      have h3 := hget _ _ h.ia; have h4 := hget _ _ h.ib
      simp only [List.mem_cons, List.not_mem_nil, or_false] at hx
      rcases hx with rfl | rfl | rfl | rfl
      · omega
      · omega
      · exact h3
      · exact h4), Nat.le_refl _, Nat.le_of_ble_eq_true rfl⟩) (by simp)
    exact ⟨.tuple ([(s : Int), (t : Int), a, b].map .int), fun {S m Q} q => reprW (p := .tuple ([(s : Int), (t : Int), a, b].map .int)) rfl a1 (Nat.le_trans b1 (by decide)) (Nat.le_trans c1 (by decide)) q⟩
theorem at_mem {p : Drv} {j : Nat} {a : Int} (h : a ∈ swAt p j) : a ∈ p.1 ∧ ∃ f, p.2 = some f ∧ f ≤ 1 + (j : Int) := by
  unfold swAt at h
  split at h
  · cases h
  · rename_i f e
    split at h
    · rename_i hf
      exact ⟨h, f, e, hf⟩
    · cases h
theorem due_ok {rows : List Row} (hw : WOk many ag rows) (pl pu : Int) : DOk many long ag (due rows long pl pu) ∧ ∀ f, (due rows long pl pu).2 = some f → f = long - ab pu + 1 := by
  have z : SOk many [] ∧ Ind ag [] := ⟨⟨by simp, by simp⟩, ⟨by simp, by simp⟩⟩
  have hr : ∀ i, (SOk many (rows.getD i ([], [])).1 ∧ Ind ag (rows.getD i ([], [])).1) ∧ (SOk many (rows.getD i ([], [])).2 ∧ Ind ag (rows.getD i ([], [])).2) := fun i => by
    rw [List.getD_eq_getElem?_getD]
    cases e : rows[i]? with
    | none => exact ⟨z, z⟩
    | some p =>
      have hm := List.mem_of_getElem? e
      exact ⟨⟨(hw.rsm p hm).1, (hw.ind p hm).1⟩, ⟨(hw.rsm p hm).2, (hw.ind p hm).2⟩⟩
  unfold due
  by_cases hz : pu = 0
  · rw [if_pos hz]; exact ⟨⟨z.1, z.2⟩, fun f h => nomatch h⟩
  · rw [if_neg hz]
    refine ⟨?_, fun f h => by cases h; rfl⟩
    constructor
    · simp only
      split
      · exact (hr _).1.1
      · exact (hr _).2.1
    · simp only
      split
      · exact (hr _).1.2
      · exact (hr _).2.2
def drs (rows : List Row) (long : Int) (bs : List (Int × Int)) : List Drv := bs.map fun b => due rows long b.1 b.2
theorem drs_ok {rows : List Row} (hw : WOk many ag rows) (bs : List (Int × Int)) : ∀ p ∈ drs rows long bs, DOk many long ag p := fun p hp => by
  obtain ⟨b, _, rfl⟩ := List.mem_map.mp hp
  exact (due_ok hw b.1 b.2).1
/-- whichever pushes come, none meet -/
theorem none_meet {rows : List Row} {quiet : Int} {bs : List (Int × Int)} (hw : WOk many ag rows) (q0 : 0 ≤ quiet) (ql : quiet < long) (hb : ∀ b ∈ bs, ab b.2 ≤ long - quiet) : ∀ q, ¬ PQ ag quiet ((drs rows long bs).flatMap (swOf long)) q := by
  rintro _ ⟨s, t, a, b, rfl, h⟩
  have hl := sw_len2 (long := long) (drs rows long bs)
  have hlen := h.len
  have hst := h.st
  have hnear := h.near
  rw [hl] at hlen
  have L0 : 0 < long.toNat := by omega
  generalize hL : long.toNat = L at *
  have ti := (Nat.div_lt_iff_lt_mul L0).mpr hlen
  have si : s / L ≤ t / L := Nat.div_le_div_right hst
  have sm := Nat.div_add_mod s L
  have tm := Nat.div_add_mod t L
  have sl := Nat.mod_lt s L0
  have tl := Nat.mod_lt t L0
  obtain ⟨p, hp⟩ : ∃ p, (drs rows long bs)[s / L]? = some p := ⟨_, List.getElem?_eq_getElem (Nat.lt_of_le_of_lt si ti)⟩
  obtain ⟨p', hp'⟩ : ∃ p, (drs rows long bs)[t / L]? = some p := ⟨_, List.getElem?_eq_getElem ti⟩
  have g1 := sw_get (long := long) (j := s % L) hp (by rw [hL]; exact sl)
  have g2 := sw_get (long := long) (j := t % L) hp' (by rw [hL]; exact tl)
  rw [hL, Nat.mul_comm, sm] at g1
  rw [hL, Nat.mul_comm, tm] at g2
  have ia := h.ia
  have ib := h.ib
  rw [List.getD_eq_getElem?_getD, g1] at ia
  rw [List.getD_eq_getElem?_getD, g2] at ib
  obtain ⟨ma, f, ef, hf⟩ := at_mem ia
  obtain ⟨mb, f', ef', hf'⟩ := at_mem ib
  by_cases e : s / L = t / L
  · rw [e, hp'] at hp
    obtain rfl := Option.some.inj hp
    have hi := (drs_ok (long := long) hw bs _ (List.mem_of_getElem? hp')).i
    rcases h.ag with hg | hg
    · exact hi.ap a ma b mb hg
    · exact hi.ap b mb a ma hg
  · obtain ⟨x, hx, rfl⟩ := List.mem_map.mp (List.mem_of_getElem? hp')
    have h1 := (due_ok (long := long) hw x.1 x.2).2 f' ef'
    have h2 := hb x hx
    have h3 : L * (s / L + 1) ≤ L * (t / L) := Nat.mul_le_mul_left _ (by omega)
    rw [Nat.mul_add, Nat.mul_one] at h3
    omega
theorem sum_rep (n : Nat) (r : List Int) : ((List.replicate n r).map fun r => (r.length : Int)).sum = n * (r.length : Int) := by
  induction n with
  | zero => simp
  | succ n ih =>
    rw [List.replicate_succ, List.map_cons, List.sum_cons, ih]
    rw [show ((n + 1 : Nat) : Int) = (n : Int) + 1 from rfl, Int.add_mul, Int.one_mul, Int.add_comm]
theorem sums {rows : List Row} (l0 : 0 ≤ long) : ∀ bs : List (Int × Int), (∀ b ∈ bs, ab b.2 ≤ long) → (((drs rows long bs).flatMap (swOf long)).map fun r => (r.length : Int)).sum = (bs.map fun b => ((due rows long b.1 b.2).1.length : Int) * ab b.2).sum
  | [], _ => rfl
  | b :: bs, hb => by
    have ih := sums (rows := rows) l0 bs fun x hx => hb x (List.mem_cons_of_mem _ hx)
    have hn := ab_nn b.2
    have hh := hb b (List.mem_cons_self ..)
    unfold drs at ih ⊢
    rw [List.map_cons, List.flatMap_cons, List.map_append, List.sum_append, ih, List.map_cons, List.sum_cons, sw_rows l0 hh]
    unfold rowsOf
    rw [List.map_append, List.sum_append, sum_rep, sum_rep]
    simp only [List.length_nil]
    rw [Int.toNat_of_nonneg hn, Int.mul_comm (ab b.2)]
    simp
end
theorem body12 : ∀ ds S Q, spLaw ds S Q → wpSs G c12 (startD n12.length ds) S { nx := fun _ S' => Q .non S', rt := Q } := by
  rintro ds S Q ⟨ns, rfl, hns, hQ⟩
  unfold c12 n12
  simp_arith only [List.length_map]
  have hc1 : 1 ≤ (if (if (ns.length : Int) < 4 then (ns.length : Int) else 4) > 1 then (if (ns.length : Int) < 4 then (ns.length : Int) else 4) else 1) ∧ (if (if (ns.length : Int) < 4 then (ns.length : Int) else 4) > 1 then (if (ns.length : Int) < 4 then (ns.length : Int) else 4) else 1) ≤ 4 := by split <;> split <;> omega
  generalize (if (if (ns.length : Int) < 4 then (ns.length : Int) else 4) > 1 then (if (ns.length : Int) < 4 then (ns.length : Int) else 4) else 1) = cells at *
  (repeat (refine And.intro (by first | omega | exact DL.mul_small_left (by omega) (by omega) | exact DL.mul_small_right (by omega) (by omega) | exact DL.div_om (by omega) (by omega) (by omega) | exact DL.cpow1 (by omega) (by omega) | exact ⟨by omega, by omega⟩ | exact DL.len_le (by (try simp only [List.length_map, List.length_append, List.length_cons, List.length_nil]); omega) | exact DL.len_lt (by (try simp only [List.length_map, List.length_append, List.length_cons, List.length_nil]); omega) | trivial | decide) ?_))
  refine walk_range (fun i ρ S' => ∃ r1 r2 r3 r4 r5 r6 r7 r8 r9 r10 r11 r12 r13 r14 r15, ρ = [some (.scr (ns.map D.int)), r1, r2, r3, r4, r5, r6, r7, r8, r9, r10, r11, r12, r13, r14, r15]) ⟨_, _, _, _, _, _, _, _, _, _, _, _, _, _, _, rfl⟩ (fun _ _ _ _ => trivial) (fun k ρ S' hk hp => ?_) (fun ρ S' hp => ?_)
  · obtain ⟨r1, r2, r3, r4, r5, r6, r7, r8, r9, r10, r11, r12, r13, r14, r15, rfl⟩ := hp
    unfold DL.forTurn
    rw [g_name]
    simp only [List.set_cons_succ, List.set_cons_zero]
    refine ss_split 5 (fun ρ S' => ∃ (many long quiet at' : Int) (ag : List (Int × Int)) (rows : List Row) (bs : List (Int × Int)) (p q : Nat) (r1 r2 r5 r6 r11 r12 r13 r14 r15 : Option D), ρ = [some (.scr (ns.map D.int)), r1, r2, some (.int quiet), some (.ref q), r5, r6, some (wD many ag rows), some (.int long), some (.ref p), some (.int at'), r11, r12, r13, r14, r15] ∧ WOk many ag rows ∧ 4 ≤ long ∧ long ≤ 16 ∧ 1 ≤ quiet ∧ quiet ≤ long - 2 ∧ 0 ≤ at' ∧ at' ≤ 12 ∧ BOk (long - quiet) bs ∧ S'[p]? = some (.lst (bs.map prD)) ∧ S'[q]? = some (.lst ((drs rows long bs).map drD)) ∧ p < q) (fun N hN => ?_) ?_
    · simp_arith only [G5]
      refine handP (by omega) (by omega) fun n S1 hP _ _ => ?_
      (try simp_arith only [G9])
      refine ⟨n, _, rfl, hP, by omega, fun many ag rows S2 hw hP _ => ?_⟩
      (try simp_arith only [G6])
      refine takeP hP (by omega) (by omega) (by omega) fun v S3 v0 v1 hP _ _ => ?_
      (try simp_arith only [G6])
      refine ⟨trivial, ?_⟩
      refine takeP hP (by omega) (by omega) (by omega) fun u S4 u0 u1 hP _ _ => ?_
      (try simp_arith only [G10])
      have hn4 := hP.lt
      refine ⟨n, _, _, rfl, hP, by omega, by omega, by omega, fun p bs S5 hb hp hP _ hlp => ?_⟩
      (try simp_arith only [G6])
      refine takeP hP (by omega) (by omega) (by omega) fun w S6 w0 w1 hP hF _ => ?_
      have hp6 := hF.get (by omega) hp
      have hl12 := hb.len
      have e7 : 4 + v - (1 + u) = 4 + v - (1 + u) := rfl
      refine ⟨_, hp6, ?_⟩
      refine gather_inv (fun j acc S' => S' = S6 ∧ acc = (drs rows (4 + v) (bs.take j)).map drD) (by rw [List.length_map]; exact len_le (by omega)) ⟨rfl, by simp [drs]⟩ (fun j acc S' h => ⟨by rw [h.1]; exact hp6, by rw [h.2, List.length_map, drs, List.length_map, List.length_take]; omega⟩) (fun j x acc S' hx h N' n1 n2 => ?_) (fun acc S' h => ?_)
      · obtain ⟨rfl, rfl⟩ := h
        rw [List.getElem?_map] at hx
        obtain ⟨b, hb2, rfl⟩ := Option.map_eq_some_iff.mp hx
        obtain ⟨b1, b2, _, _⟩ := hb.b b (List.mem_of_getElem? hb2)
        have epb : prD b = D.tup [.int b.1, .int b.2] := rfl
        rw [epb]
        unfold lcTurn
        (try simp_arith only [G0])
        refine ⟨trivial, many, ag, rows, 4 + v, b.1, b.2, rfl, hw.r0, hw.r1, by omega, by omega, ?_⟩
        refine n1 _ _ ⟨rfl, ?_⟩
        rw [List.take_add_one, hb2]
        simp [drs]
      · obtain ⟨rfl, rfl⟩ := h
        rw [List.length_map, List.take_length]
        have := (List.getElem?_eq_some_iff.mp hp6).1
        (try simp_arith only [])
        exact hN _ _ ⟨many, 4 + v, 1 + u, w, ag, rows, bs, p, S'.length, _, _, r5, r6, _, _, _, _, _, rfl, hw, by omega, by omega, by omega, by omega, by omega, by omega, hb, by rw [List.getElem?_append_left this]; exact hp6, by simp, this⟩
    rintro ρ S1 ⟨many, long, quiet, at', ag, rows, bs, p, q, r1, r2, r5, r6, r11, r12, r13, r14, r15, rfl, hw, l4, l16, q1, q2, at0, at1, hb, hp, hq, hpq⟩
    have hl12 := hb.len
    have hl2 := hb.l2
    have hdl : (drs rows long bs).length = bs.length := by simp [drs]
    have hba : ∀ b ∈ bs, ab b.2 ≤ long - quiet := fun b h => by
      obtain ⟨_, _, h1, h2⟩ := hb.b b h
      unfold ab; split <;> omega
    have hnone := none_meet (bs := bs) hw (show 0 ≤ quiet by omega) (show quiet < long by omega) hba
    have hok := drs_ok (long := long) hw bs
    have hds : ∀ p ∈ drs rows long bs, SOk many p.1 := fun p hp => (hok p hp).s
    have hlt : ∀ dr : List Drv, dr.length ≤ 12 → (dr.flatMap (swOf long)).length ≤ 192 := fun dr h => by
      rw [sw_len2]
      have := Nat.mul_le_mul h (show long.toNat ≤ 16 by omega)
      omega
    refine ss_split 3 (fun ρ S' => Kp S1 S' ∧ ρ = [some (.scr (ns.map D.int)), r1, r2, some (.int quiet), some (.ref q), some (.tup (((drs rows long bs).flatMap (swOf long)).map tupI)), r6, some (wD many ag rows), some (.int long), some (.ref p), some (.int at'), r11, r12, r13, r14, r15]) (fun N hN => ?_) ?_
    · show wpSs G [_, _, _] _ _ _
      simp_arith only []
      refine ⟨_, by rw [hq]; rfl, ?_⟩
      (try simp_arith only [G4])
      refine ⟨many, ag, rows, quiet, long, drs rows long bs, rfl, hw, by omega, by omega, by omega, by omega, by omega, hds, fun r S2 k2 hr => ?_⟩
      obtain rfl := fa_non hnone hr
      (try simp_arith only [G11])
      refine ⟨many, ag, rows, q, long, quiet, drs rows long bs, rfl, k2 _ _ hq, hw, by omega, by omega, by omega, by omega, by omega, hok, fun r S3 k3 hr => ?_⟩
      obtain rfl := fa_non hnone hr
      (try simp_arith only [])
      refine ⟨_, by rw [k3 _ _ (k2 _ _ hq)]; rfl, ?_⟩
      (try simp_arith only [G1])
      refine ⟨long, drs rows long bs, rfl, by omega, by omega, by omega, fun S4 k4 => ?_⟩
      (try simp_arith only [])
      exact hN _ _ ⟨(k2.trans k3).trans k4, rfl⟩
    rintro ρ S2 ⟨k2, rfl⟩
    replace hp := k2 _ _ hp
    replace hq := k2 _ _ hq
    clear k2
    refine ss_split 1 (fun ρ S' => S' = S2 ∧ ∃ (r11 r12 r13 r14 r15 : Option D), ρ = [some (.scr (ns.map D.int)), r1, r2, some (.int quiet), some (.ref q), some (.tup (((drs rows long bs).flatMap (swOf long)).map tupI)), r6, some (wD many ag rows), some (.int long), some (.ref p), some (.int at'), r11, r12, r13, r14, r15]) (fun N hN => ?_) ?_
    · show wpSs G [_] _ _ _
      have hRl := hlt (drs rows long bs) (by omega)
      have hsum := sums (rows := rows) (long := long) (by omega) bs fun b h => by have := hba b h; omega
      generalize hRR : (drs rows long bs).flatMap (swOf long) = R at *
      simp_arith only []
      refine gather_inv (fun j acc S' => S' = S2 ∧ acc = ((R.take j).map fun r => (r.length : Int)).map D.int) (by rw [List.length_map]; exact len_le (by omega)) ⟨rfl, by simp⟩ (fun j acc S' h => ⟨trivial, by rw [h.2, List.length_map, List.length_map, List.length_take]; omega⟩) (fun j x acc S' hx h N' n1 n2 => ?_) (fun acc S' h => ?_)
      · obtain ⟨rfl, rfl⟩ := h
        rw [List.getElem?_map] at hx
        obtain ⟨r, hr, rfl⟩ := Option.map_eq_some_iff.mp hx
        unfold lcTurn tupI
        (try simp_arith only [List.length_map])
        refine n1 _ _ ⟨rfl, ?_⟩
        rw [List.take_add_one, hr]
        simp
      · obtain ⟨rfl, rfl⟩ := h
        rw [List.length_map, List.take_length]
        refine ⟨_, _, rfl, mapM_int _, ?_⟩
        (try simp_arith only [])
        refine ⟨_, _, by simp only [tlOf, lstOf, hq]; rfl, by simp only [tlOf, lstOf, hp]; rfl, ?_⟩
        have ez : zipD ((drs rows long bs).map drD) (bs.map prD) = bs.map fun b => D.tup [drD (due rows long b.1 b.2), prD b] := by
          unfold zipD drs
          rw [List.map_map, List.zip_map', List.map_map]; rfl
        rw [ez]
        refine gather_inv (fun j acc S6 => S6 = S' ∧ acc = ((bs.take j).map fun b => ((due rows long b.1 b.2).1.length : Int) * ab b.2).map D.int) (by rw [List.length_map]; exact len_le (by omega)) ⟨rfl, by simp⟩ (fun j acc S6 h => ⟨by rw [h.1]; exact ⟨by simp only [tlOf, lstOf, hq], by simp only [tlOf, lstOf, hp]⟩, by rw [h.2, List.length_map, List.length_map, List.length_take]; omega⟩) (fun j x acc S6 hx h N' n1 n2 => ?_) (fun acc S6 h => ?_)
        · obtain ⟨rfl, rfl⟩ := h
          rw [List.getElem?_map] at hx
          obtain ⟨b, hb2, rfl⟩ := Option.map_eq_some_iff.mp hx
          have hs14 := ((due_ok (long := long) hw b.1 b.2).1.s).len
          have epb : D.tup [drD (due rows long b.1 b.2), prD b] = D.tup [D.tup [D.tup ((due rows long b.1 b.2).1.map D.int), oD (due rows long b.1 b.2).2], D.tup [.int b.1, .int b.2]] := rfl
          rw [epb]
          unfold lcTurn
          (try simp_arith only [List.length_map])
          refine ⟨trivial, trivial, mul_small_left (by omega) (by omega), ?_⟩
          refine n1 _ _ ⟨rfl, ?_⟩
          rw [List.take_add_one, hb2]
          simp [ab]
        · obtain ⟨rfl, rfl⟩ := h
          rw [List.length_map, List.take_length]
          refine ⟨_, _, rfl, mapM_int _, ?_⟩
          rw [← hsum]
          (try simp_arith only [])
          exact hN _ _ ⟨rfl, _, _, _, _, _, rfl⟩
    rintro ρ S3 ⟨rfl, r11, r12, r13, r14, r15, rfl⟩
    refine ss_split 1 (fun ρ S' => Kp S3 S' ∧ ρ = [some (.scr (ns.map D.int)), r1, r2, some (.int quiet), some (.ref q), some (.tup (((drs rows long bs).flatMap (swOf long)).map tupI)), r6, some (wD many ag rows), some (.int long), some (.ref p), some (.int at'), r11, r12, r13, r14, r15]) (fun N hN => ?_) ?_
    · show wpSs G [_] _ _ _
      simp_arith only []
      refine ⟨_, by rw [hq]; rfl, ?_⟩
      (try simp_arith only [G4])
      refine ⟨many, ag, rows, quiet + 1, long, drs rows long bs, rfl, hw, by omega, by omega, by omega, by omega, by omega, hds, fun r S4 k4 hr => ?_⟩
      (try simp_arith only [G11])
      refine ⟨many, ag, rows, q, long, quiet + 1, drs rows long bs, rfl, k4 _ _ hq, hw, by omega, by omega, by omega, by omega, by omega, hok, fun r' S5 k5 hr' => ?_⟩
      obtain rfl := fa_uniq hr hr'
      refine fa_ne hr ?_
      (try simp_arith only [])
      exact hN _ _ ⟨k4.trans k5, rfl⟩
    rintro ρ S4 ⟨k4, rfl⟩
    replace hp := k4 _ _ hp
    replace hq := k4 _ _ hq
    clear k4
    have hfm := fmod_pos (a := at') (b := (bs.length : Int)) (by omega)
    obtain ⟨kk, ek⟩ : ∃ kk : Nat, at'.fmod (bs.length : Int) = kk := Int.eq_ofNat_of_zero_le hfm.1
    have hkl : kk < bs.length := by omega
    obtain ⟨b, hbk⟩ : ∃ b, bs[kk]? = some b := ⟨_, List.getElem?_eq_getElem hkl⟩
    obtain ⟨b1, b2, b3, b4⟩ := hb.b b (List.mem_of_getElem? hbk)
    have eat : atI (bs.map prD) (at'.fmod (bs.length : Int)) = some (prD b) := by rw [ek]; exact at_map hbk
    refine ss_split 1 (fun ρ S' => S' = S4 ∧ ∃ (r13 r14 r15 : Option D), ρ = [some (.scr (ns.map D.int)), r1, r2, some (.int quiet), some (.ref q), some (.tup (((drs rows long bs).flatMap (swOf long)).map tupI)), r6, some (wD many ag rows), some (.int long), some (.ref p), some (.int at'), some (.int b.1), some (.int b.2), r13, r14, r15]) (fun N hN => ?_) ?_
    · show wpSs G [_] _ _ _
      simp_arith only [hp, List.length_map, eat]
      refine ⟨by omega, ?_⟩
      have epb : prD b = D.tup [.int b.1, .int b.2] := rfl
      rw [epb]
      (try simp_arith only [])
      exact ⟨trivial, hN _ _ ⟨rfl, _, _, _, rfl⟩⟩
    rintro ρ S5 ⟨rfl, r13, r14, r15, rfl⟩
    refine ss_split 1 (fun ρ S' => S' = S5 ∧ ∃ more : Int, -long ≤ more ∧ more ≤ long ∧ ρ = [some (.scr (ns.map D.int)), r1, r2, some (.int quiet), some (.ref q), some (.tup (((drs rows long bs).flatMap (swOf long)).map tupI)), some (.int more), some (wD many ag rows), some (.int long), some (.ref p), some (.int at'), some (.int b.1), some (.int b.2), r13, r14, r15]) (fun N hN => ?_) ?_
    · show wpSs G [_] _ _ _
      simp_arith only []
      refine if_i (fun _ => ?_) fun _ => ?_
      · (try simp_arith only [])
        exact hN _ _ ⟨rfl, _, by omega, by omega, rfl⟩
      · (try simp_arith only [])
        exact hN _ _ ⟨rfl, _, by omega, by omega, rfl⟩
    rintro ρ S6 ⟨rfl, more, more0, more1, rfl⟩
    refine ss_split 1 (fun ρ S' => S'[q]? = some (.lst (((drs rows long bs).set kk (due rows long b.1 more)).map drD)) ∧ ρ = [some (.scr (ns.map D.int)), r1, r2, some (.int quiet), some (.ref q), some (.tup (((drs rows long bs).flatMap (swOf long)).map tupI)), some (.int more), some (wD many ag rows), some (.int long), some (.ref p), some (.int at'), some (.int b.1), some (.int b.2), r13, r14, r15]) (fun N hN => ?_) ?_
    · show wpSs G [_] _ _ _
      simp_arith only [G0]
      refine ⟨many, ag, rows, long, b.1, more, rfl, hw.r0, hw.r1, by omega, by omega, ?_⟩
      (try simp_arith only [hp, List.length_map])
      refine ⟨by omega, _, hq, kk, ?_, hN _ _ ⟨?_, rfl⟩⟩
      · rw [List.length_map, hdl, ek]
        unfold ixN
        rw [if_pos (show (0 : Int) ≤ kk by omega), if_pos (show (kk : Int) < (bs.length : Int) by omega), Int.toNat_natCast]
      · rw [set_get hq, List.map_set]
    rintro ρ S7 ⟨hq, rfl⟩
    show wpSs G [_] _ _ _
    have hok' : ∀ p ∈ (drs rows long bs).set kk (due rows long b.1 more), DOk many long ag p := fun p hp => by
      rcases List.mem_or_eq_of_mem_set hp with h | rfl
      · exact hok p h
      · exact (due_ok hw _ _).1
    have hdl' : ((drs rows long bs).set kk (due rows long b.1 more)).length ≤ 12 := by rw [List.length_set]; omega
    generalize (drs rows long bs).set kk (due rows long b.1 more) = dr at hok' hdl' hq ⊢
    simp_arith only []
    refine ⟨_, by rw [hq]; rfl, ?_⟩
    (try simp_arith only [G4])
    refine ⟨many, ag, rows, quiet, long, dr, rfl, hw, by omega, by omega, by omega, by omega, by omega, fun p hp => (hok' p hp).s, fun r S8 k8 hr => ?_⟩
    obtain ⟨pp, hrep⟩ := fa_repr (many := many) (sw_mem fun p hp => (hok' p hp).s) hw.m12 (by have := hlt dr hdl'; omega) hr
    refine hrep ?_
    (try simp_arith only [G11])
    refine ⟨many, ag, rows, q, long, quiet, dr, rfl, k8 _ _ hq, hw, by omega, by omega, by omega, by omega, hdl', hok', fun r' S9 k9 hr' => ?_⟩
    obtain rfl := fa_uniq hr hr'
    refine hrep ?_
    (try simp_arith only [])
    exact ⟨_, _, _, _, _, _, _, _, _, _, _, _, _, _, _, rfl⟩
  · obtain ⟨r1, r2, r3, r4, r5, r6, r7, r8, r9, r10, r11, r12, r13, r14, r15, rfl⟩ := hp
    (try simp_arith only [])
    exact hQ _
end Law_k23

namespace Law_k23
open PySem PySem.Spec PyProof.Rows L2 DL
theorem all_mk {l : PySem.W.OpenLaw} {w : World} {K : PySem.W.Frag} {h : Heap} {mg : Str → Option Value} {fa : Addr} (X : K.In h) (Gn : h.Ns mainGlobals mg) (hfa : mg "law" = some (.ref fa))
    {f0 f1 f2 f3 f4 f5 f6 f7 f8 f9 f10 f11 f12 : Addr} {od0 an0 od1 an1 od2 an2 od3 an3 od4 an4 od5 an5 od6 an6 od7 an7 od8 an8 od9 an9 od10 an10 od11 an11 od12 an12 : Option Addr} {sl0 sl1 sl2 sl3 sl4 sl5 sl6 sl7 sl8 sl9 sl10 sl11 sl12 : Array (Option Value)} {oc0 kV0 dc0 pm0 cd0 ct0 oc1 kV1 dc1 pm1 cd1 ct1 oc2 kV2 dc2 pm2 cd2 ct2 oc3 kV3 dc3 pm3 cd3 ct3 oc4 kV4 dc4 pm4 cd4 ct4 oc5 kV5 dc5 pm5 cd5 ct5 oc6 kV6 dc6 pm6 cd6 ct6 oc7 kV7 dc7 pm7 cd7 ct7 oc8 kV8 dc8 pm8 cd8 ct8 oc9 kV9 dc9 pm9 cd9 ct9 oc10 kV10 dc10 pm10 cd10 ct10 oc11 kV11 dc11 pm11 cd11 ct11 oc12 kV12 dc12 pm12 cd12 ct12 : Value}
    (a0 : PySem.W.nsIn K mainGlobals "drive" = some (some (.ref f0))) (l0 : K.lookup f0 = some ⟨oc0, od0, .func (PySem.W.fnOf "drive" "drive" (L2.defArgs s0) (L2.defBody s0) (L2.defScope s0) .none kV0 dc0 pm0 an0 cd0 ct0), sl0⟩) (d0 : PySem.W.codeIn K cd0 "drive" = true) (k0 : PySem.W.keepIn K (.ref f0) = true)
    (a1 : PySem.W.nsIn K mainGlobals "switches_at" = some (some (.ref f1))) (l1 : K.lookup f1 = some ⟨oc1, od1, .func (PySem.W.fnOf "switches_at" "switches_at" (L2.defArgs s1) (L2.defBody s1) (L2.defScope s1) .none kV1 dc1 pm1 an1 cd1 ct1), sl1⟩) (d1 : PySem.W.codeIn K cd1 "switches_at" = true) (k1 : PySem.W.keepIn K (.ref f1) = true)
    (a2 : PySem.W.nsIn K mainGlobals "those_against" = some (some (.ref f2))) (l2 : K.lookup f2 = some ⟨oc2, od2, .func (PySem.W.fnOf "those_against" "those_against" (L2.defArgs s2) (L2.defBody s2) (L2.defScope s2) .none kV2 dc2 pm2 an2 cd2 ct2), sl2⟩) (d2 : PySem.W.codeIn K cd2 "those_against" = true) (k2 : PySem.W.keepIn K (.ref f2) = true)
    (a3 : PySem.W.nsIn K mainGlobals "met_at" = some (some (.ref f3))) (l3 : K.lookup f3 = some ⟨oc3, od3, .func (PySem.W.fnOf "met_at" "met_at" (L2.defArgs s3) (L2.defBody s3) (L2.defScope s3) .none kV3 dc3 pm3 an3 cd3 ct3), sl3⟩) (d3 : PySem.W.codeIn K cd3 "met_at" = true) (k3 : PySem.W.keepIn K (.ref f3) = true)
    (a4 : PySem.W.nsIn K mainGlobals "first_against" = some (some (.ref f4))) (l4 : K.lookup f4 = some ⟨oc4, od4, .func (PySem.W.fnOf "first_against" "first_against" (L2.defArgs s4) (L2.defBody s4) (L2.defScope s4) .none kV4 dc4 pm4 an4 cd4 ct4), sl4⟩) (d4 : PySem.W.codeIn K cd4 "first_against" = true) (k4 : PySem.W.keepIn K (.ref f4) = true)
    (a5 : PySem.W.nsIn K mainGlobals "_law_hand" = some (some (.ref f5))) (l5 : K.lookup f5 = some ⟨oc5, od5, .func (PySem.W.fnOf "_law_hand" "_law_hand" (L2.defArgs s5) (L2.defBody s5) (L2.defScope s5) .none kV5 dc5 pm5 an5 cd5 ct5), sl5⟩) (d5 : PySem.W.codeIn K cd5 "_law_hand" = true) (k5 : PySem.W.keepIn K (.ref f5) = true)
    (a6 : PySem.W.nsIn K mainGlobals "_law_take" = some (some (.ref f6))) (l6 : K.lookup f6 = some ⟨oc6, od6, .func (PySem.W.fnOf "_law_take" "_law_take" (L2.defArgs s6) (L2.defBody s6) (L2.defScope s6) .none kV6 dc6 pm6 an6 cd6 ct6), sl6⟩) (d6 : PySem.W.codeIn K cd6 "_law_take" = true) (k6 : PySem.W.keepIn K (.ref f6) = true)
    (a7 : PySem.W.nsIn K mainGlobals "_law_pick" = some (some (.ref f7))) (l7 : K.lookup f7 = some ⟨oc7, od7, .func (PySem.W.fnOf "_law_pick" "_law_pick" (L2.defArgs s7) (L2.defBody s7) (L2.defScope s7) .none kV7 dc7 pm7 an7 cd7 ct7), sl7⟩) (d7 : PySem.W.codeIn K cd7 "_law_pick" = true) (k7 : PySem.W.keepIn K (.ref f7) = true)
    (a8 : PySem.W.nsIn K mainGlobals "_law_side" = some (some (.ref f8))) (l8 : K.lookup f8 = some ⟨oc8, od8, .func (PySem.W.fnOf "_law_side" "_law_side" (L2.defArgs s8) (L2.defBody s8) (L2.defScope s8) .none kV8 dc8 pm8 an8 cd8 ct8), sl8⟩) (d8 : PySem.W.codeIn K cd8 "_law_side" = true) (k8 : PySem.W.keepIn K (.ref f8) = true)
    (a9 : PySem.W.nsIn K mainGlobals "_law_any_coils" = some (some (.ref f9))) (l9 : K.lookup f9 = some ⟨oc9, od9, .func (PySem.W.fnOf "_law_any_coils" "_law_any_coils" (L2.defArgs s9) (L2.defBody s9) (L2.defScope s9) .none kV9 dc9 pm9 an9 cd9 ct9), sl9⟩) (d9 : PySem.W.codeIn K cd9 "_law_any_coils" = true) (k9 : PySem.W.keepIn K (.ref f9) = true)
    (a10 : PySem.W.nsIn K mainGlobals "_law_beats" = some (some (.ref f10))) (l10 : K.lookup f10 = some ⟨oc10, od10, .func (PySem.W.fnOf "_law_beats" "_law_beats" (L2.defArgs s10) (L2.defBody s10) (L2.defScope s10) .none kV10 dc10 pm10 an10 cd10 ct10), sl10⟩) (d10 : PySem.W.codeIn K cd10 "_law_beats" = true) (k10 : PySem.W.keepIn K (.ref f10) = true)
    (a11 : PySem.W.nsIn K mainGlobals "_law_walk" = some (some (.ref f11))) (l11 : K.lookup f11 = some ⟨oc11, od11, .func (PySem.W.fnOf "_law_walk" "_law_walk" (L2.defArgs s11) (L2.defBody s11) (L2.defScope s11) .none kV11 dc11 pm11 an11 cd11 ct11), sl11⟩) (d11 : PySem.W.codeIn K cd11 "_law_walk" = true) (k11 : PySem.W.keepIn K (.ref f11) = true)
    (a12 : PySem.W.nsIn K mainGlobals "law" = some (some (.ref f12))) (l12 : K.lookup f12 = some ⟨oc12, od12, .func (PySem.W.fnOf "law" "law" (L2.defArgs s12) (L2.defBody s12) (L2.defScope s12) .none kV12 dc12 pm12 an12 cd12 ct12), sl12⟩) (d12 : PySem.W.codeIn K cd12 "law" = true) (k12 : PySem.W.keepIn K (.ref f12) = true)
    (z_abs : PySem.W.nsIn K mainGlobals "abs" = some none) (z_enumerate : PySem.W.nsIn K mainGlobals "enumerate" = some none) (z_len : PySem.W.nsIn K mainGlobals "len" = some none) (z_max : PySem.W.nsIn K mainGlobals "max" = some none) (z_min : PySem.W.nsIn K mainGlobals "min" = some none) (z_range : PySem.W.nsIn K mainGlobals "range" = some none) (z_repr : PySem.W.nsIn K mainGlobals "repr" = some none) (z_sorted : PySem.W.nsIn K mainGlobals "sorted" = some none) (z_sum : PySem.W.nsIn K mainGlobals "sum" = some none) (z_tuple : PySem.W.nsIn K mainGlobals "tuple" = some none) (z_zip : PySem.W.nsIn K mainGlobals "zip" = some none)
    : ∃ fd : FuncData, (∀ (s : Shared) (v : Value), BindsTo s fd ⟨[v], []⟩ [("_law_script", v)]) ∧ ∀ base : Heap, K.In base → base.Ns mainGlobals mg → FnG l.prog w K mg base 13 fa fd ["_law_script"] (spOf K spLaw) := by
  have e := hfa.symm.trans (PySem.W.mg_of X Gn a12)
  cases e
  have F0 := L2.fun_mk (st := s0) l0 d0 k0
  have F1 := L2.fun_mk (st := s1) l1 d1 k1
  have F2 := L2.fun_mk (st := s2) l2 d2 k2
  have F3 := L2.fun_mk (st := s3) l3 d3 k3
  have F4 := L2.fun_mk (st := s4) l4 d4 k4
  have F5 := L2.fun_mk (st := s5) l5 d5 k5
  have F6 := L2.fun_mk (st := s6) l6 d6 k6
  have F7 := L2.fun_mk (st := s7) l7 d7 k7
  have F8 := L2.fun_mk (st := s8) l8 d8 k8
  have F9 := L2.fun_mk (st := s9) l9 d9 k9
  have F10 := L2.fun_mk (st := s10) l10 d10 k10
  have F11 := L2.fun_mk (st := s11) l11 d11 k11
  have F12 := L2.fun_mk (st := s12) l12 d12 k12
  refine ⟨PySem.W.fnOf "law" "law" (L2.defArgs s12) (L2.defBody s12) (L2.defScope s12) .none kV12 dc12 pm12 an12 cd12 ct12, fun s v => .of_eq rfl, fun base _ _ => ?_⟩
  have t0 : Tab l.prog w K mg base 0 T0 G := Tab.none (fun j x h => by simp [gls] at h) (fun x hx => by
    simp only [bis, List.mem_cons, List.mem_nil_iff, or_false] at hx
    rcases hx with rfl | rfl | rfl | rfl | rfl | rfl | rfl | rfl | rfl | rfl | rfl
    · exact PySem.W.mg_none_of X Gn z_abs
    · exact PySem.W.mg_none_of X Gn z_enumerate
    · exact PySem.W.mg_none_of X Gn z_len
    · exact PySem.W.mg_none_of X Gn z_max
    · exact PySem.W.mg_none_of X Gn z_min
    · exact PySem.W.mg_none_of X Gn z_range
    · exact PySem.W.mg_none_of X Gn z_repr
    · exact PySem.W.mg_none_of X Gn z_sorted
    · exact PySem.W.mg_none_of X Gn z_sum
    · exact PySem.W.mg_none_of X Gn z_tuple
    · exact PySem.W.mg_none_of X Gn z_zip)
  have g0 := fn_sound F0 sc0 t0 ok0 len0 body0
  have t1 : Tab l.prog w K mg base 1 T1 G := t0.add (i := i0) g0 (PySem.W.mg_of X Gn a0) k0 (fun _ => kb_pos fun us hl => match us, hl with | [_, _, _, _], _ => rfl) (fun p hp => by cases hp)
  have g1 := fn_sound F1 sc1 t1 ok1 len1 body1
  have t2 : Tab l.prog w K mg base 2 T2 G := t1.add (i := i1) g1 (PySem.W.mg_of X Gn a1) k1 (fun _ => kb_pos fun us hl => match us, hl with | [_, _], _ => rfl) (fun p hp => by cases hp)
  have g2 := fn_sound F2 sc2 t2 ok2 len2 body2
  have t3 : Tab l.prog w K mg base 3 T3 G := t2.add (i := i2) g2 (PySem.W.mg_of X Gn a2) k2 (fun _ => kb_pos fun us hl => match us, hl with | [_], _ => rfl) (fun p hp => by cases hp)
  have g3 := fn_sound F3 sc3 t3 ok3 len3 body3
  have t4 : Tab l.prog w K mg base 4 T4 G := t3.add (i := i3) g3 (PySem.W.mg_of X Gn a3) k3 (fun _ => kb_pos fun us hl => match us, hl with | [_, _, _, _], _ => rfl) (fun p hp => by cases hp)
  have g4 := fn_sound F4 sc4 t4 ok4 len4 body4
  have t5 : Tab l.prog w K mg base 5 T5 G := t4.add (i := i4) g4 (PySem.W.mg_of X Gn a4) k4 (fun _ => kb_pos fun us hl => match us, hl with | [_, _, _, _], _ => rfl) (fun p hp => by cases hp)
  have g5 := fn_sound F5 sc5 t5 ok5 len5 body5
  have t6 : Tab l.prog w K mg base 6 T6 G := t5.add (i := i5) g5 (PySem.W.mg_of X Gn a5) k5 (fun _ => kb_pos fun us hl => match us, hl with | [_, _], _ => rfl) (fun p hp => by cases hp)
  have g6 := fn_sound F6 sc6 t6 ok6 len6 body6
  have t7 : Tab l.prog w K mg base 7 T7 G := t6.add (i := i6) g6 (PySem.W.mg_of X Gn a6) k6 (fun _ => kb_pos fun us hl => match us, hl with | [_, _], _ => rfl) (fun p hp => by cases hp)
  have g7 := fn_sound F7 sc7 t7 ok7 len7 body7
  have t8 : Tab l.prog w K mg base 8 T8 G := t7.add (i := i7) g7 (PySem.W.mg_of X Gn a7) k7 (fun _ => kb_pos fun us hl => match us, hl with | [_, _], _ => rfl) (fun p hp => by cases hp)
  have g8 := fn_sound F8 sc8 t8 ok8 len8 body8
  have t9 : Tab l.prog w K mg base 9 T9 G := t8.add (i := i8) g8 (PySem.W.mg_of X Gn a8) k8 (fun _ => kb_pos fun us hl => match us, hl with | [_, _, _], _ => rfl) (fun p hp => by cases hp)
  have g9 := fn_sound F9 sc9 t9 ok9 len9 body9
  have t10 : Tab l.prog w K mg base 10 T10 G := t9.add (i := i9) g9 (PySem.W.mg_of X Gn a9) k9 (fun _ => kb_pos fun us hl => match us, hl with | [_], _ => rfl) (fun p hp => by cases hp)
  have g10 := fn_sound F10 sc10 t10 ok10 len10 body10
  have t11 : Tab l.prog w K mg base 11 T11 G := t10.add (i := i10) g10 (PySem.W.mg_of X Gn a10) k10 (fun _ => kb_pos fun us hl => match us, hl with | [_, _], _ => rfl) (fun p hp => by cases hp)
  have g11 := fn_sound F11 sc11 t11 ok11 len11 body11
  have t12 : Tab l.prog w K mg base 12 T12 G := t11.add (i := i11) g11 (PySem.W.mg_of X Gn a11) k11 (fun _ => kb_pos fun us hl => match us, hl with | [_, _, _, _], _ => rfl) (fun p hp => by cases hp)
  have g12 := fn_sound F12 sc12 t12 ok12 len12 body12
  exact g12
end Law_k23
open PySem PySem.W PyProof.Rows
set_option maxHeartbeats 0 in
theorem PySem.Challenge.cw_drivenwheels_k23_whole_pushes_never_meet_holds : PySem.Challenge.rw_drivenwheels_k23_whole_pushes_never_meet.Holds := by
  w_on; o_law; k_head; (case hw => w_witness2)
  k_fill
  refine DL.walk_law (l := PySem.Challenge.rw_drivenwheels_k23_whole_pushes_never_meet) (k := 13) (x := "_law_script") rfl rfl ⟨rfl, by decide, by decide⟩ (fun w h Y => PySem.W.kIn_of Y) ?F
  case F =>
    intro w mg fa h KX Gn hmg
    refine' Law_k23.all_mk KX Gn hmg ?a0 ?l0 ?d0 ?k0 ?a1 ?l1 ?d1 ?k1 ?a2 ?l2 ?d2 ?k2 ?a3 ?l3 ?d3 ?k3 ?a4 ?l4 ?d4 ?k4 ?a5 ?l5 ?d5 ?k5 ?a6 ?l6 ?d6 ?k6 ?a7 ?l7 ?d7 ?k7 ?a8 ?l8 ?d8 ?k8 ?a9 ?l9 ?d9 ?k9 ?a10 ?l10 ?d10 ?k10 ?a11 ?l11 ?d11 ?k11 ?a12 ?l12 ?d12 ?k12 ?z_abs ?z_enumerate ?z_len ?z_max ?z_min ?z_range ?z_repr ?z_sorted ?z_sum ?z_tuple ?z_zip
    (case a0 => k_is); (case l0 => k_is); (case d0 => k_is); (case k0 => k_is); (case a1 => k_is); (case l1 => k_is); (case d1 => k_is); (case k1 => k_is); (case a2 => k_is); (case l2 => k_is); (case d2 => k_is); (case k2 => k_is); (case a3 => k_is); (case l3 => k_is); (case d3 => k_is); (case k3 => k_is); (case a4 => k_is); (case l4 => k_is); (case d4 => k_is); (case k4 => k_is); (case a5 => k_is); (case l5 => k_is); (case d5 => k_is); (case k5 => k_is); (case a6 => k_is); (case l6 => k_is); (case d6 => k_is); (case k6 => k_is); (case a7 => k_is); (case l7 => k_is); (case d7 => k_is); (case k7 => k_is); (case a8 => k_is); (case l8 => k_is); (case d8 => k_is); (case k8 => k_is); (case a9 => k_is); (case l9 => k_is); (case d9 => k_is); (case k9 => k_is); (case a10 => k_is); (case l10 => k_is); (case d10 => k_is); (case k10 => k_is); (case a11 => k_is); (case l11 => k_is); (case d11 => k_is); (case k11 => k_is); (case a12 => k_is); (case l12 => k_is); (case d12 => k_is); (case k12 => k_is); (case z_abs => k_is); (case z_enumerate => k_is); (case z_len => k_is); (case z_max => k_is); (case z_min => k_is); (case z_range => k_is); (case z_repr => k_is); (case z_sorted => k_is); (case z_sum => k_is); (case z_tuple => k_is); (case z_zip => k_is)

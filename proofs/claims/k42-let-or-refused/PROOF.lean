import PyProof.Rows.All
import Wide.All
import OpenK.AllK
import Wide.FinOn
import HandS.ForMost
import HandS.Wide
import HandS.TryOnly
import HandS.WideBits
import HandS.Style
import HandS.IsInst
import HandS.Zip
import HandS.Rev
import HandS.RevRange
import HandS.Sort
import HandS.SortInts
import HandS.SortKw
import HandS.Conv
import HandS.Flow
import HandS.TupAny
import HandS.TupMul
import HandS.Strs
import HandS.Flt
import HandS.Dict
import HandS.DictComp
import KE.DataMinMax
import KE.DataCmp
import HandS.Deep
import PyProof.DictRoadsH
import PyProof.Rows.TupTab
import HandS.DictTup
import HandS.SortRule
import KE.KRevSl
import KE.SortData
import KE.KDictDisplayH
import HandS.New
import HandS.RaiseMore
import KE.GoesMore
import KE.GoesZip
import KE.KDictZip
import PySem.Challenge.RW_drivenwheels_k42_let_or_refused
set_option Elab.async false
set_option linter.all false
set_option maxRecDepth 100000
namespace DL
open PySem PySem.Spec PyProof.Rows L2

/-- data: tuples and lists that stay as they are, by what is in them; lists that change, by their number in the store -/
inductive D where
  | non | bl (b : Bool) | int (i : Int) | str (x : Str) | tup (xs : List D) | lst (xs : List D) | ref (n : Nat)
  /-- the script -/
  | scr (xs : List D)
  /-- a tuple of numbers and texts that was made here: a key -/
  | key (ks : List L2.Key)

inductive Cell where
  | lst (xs : List D)
  /-- a dict whose keys are tuples of numbers and texts -/
  | dct (kvs : List (List L2.Key × D))
  /-- a dict that is locked: a loop walks it -/
  | dlk (kvs : List (List L2.Key × D))
  /-- a dict whose keys are numbers and texts -/
  | dkk (kvs : List (L2.Key × D))
  | dkl (kvs : List (L2.Key × D))
abbrev DStore := List Cell
abbrev DEnv := List (Option D)
abbrev QE := D → DStore → Prop
abbrev St := L2.St

section
variable (K : PySem.W.Frag) (H : Hp) (η μ : List Addr)
mutual
inductive RV : D → V → Prop
  | non : RV .non .non
  | bl (b : Bool) : RV (.bl b) (.bl b)
  | int (i : Int) : RV (.int i) (.int i)
  | str (x : Str) : RV (.str x) (.str x)
  | tup {a : Addr} {xs : List V} {ds : List D} : SqT K H a xs → RVs ds xs → RV (.tup ds) (.ref a)
  | lst {a : Addr} {xs : List V} {ds : List D} : a ∉ μ → a ∉ η → H a = some (.lst xs) → RVs ds xs → RV (.lst ds) (.ref a)
  | scr {a : Addr} {xs : List V} {ds : List D} : ((∃ o, H a = some (.frz o (.lst xs))) ∨ ∀ H', SqL K H' a xs) → RVs ds xs → RV (.scr ds) (.ref a)
  | ref {n : Nat} {a : Addr} : μ[n]? = some a → RV (.ref n) (.ref a)
  | key {a : Addr} {ks : List L2.Key} : H a = some (.tup (ks.map kV)) → RV (.key ks) (.ref a)
inductive RVs : List D → List V → Prop
  | nil : RVs [] []
  | cons {d : D} {v : V} {ds : List D} {vs : List V} : RV d v → RVs ds vs → RVs (d :: ds) (v :: vs)
end
end

/-- values stay what they are -/
structure Ext (η μ : List Addr) (H : Hp) (η' μ' : List Addr) (H' : Hp) : Prop where
  pre : ∃ more, μ' = μ ++ more
  keep : ∀ a o, H a = some o → a ∉ μ → a ∉ η → H' a = some o ∧ a ∉ μ' ∧ a ∉ η'
  tup : ∀ a xs, H a = some (.tup xs) → H' a = some (.tup xs)
  frz : ∀ a o u, H a = some (.frz o u) → H' a = some (.frz o u)
/-- what evaluation does: hidden things stay -/
structure Grow (μ : List Addr) (H : Hp) (μ' : List Addr) (H' : Hp) : Prop where
  pre : ∃ more, μ' = μ ++ more
  keep : ∀ a o, H a = some o → a ∉ μ → H' a = some o ∧ a ∉ μ'
  tup : ∀ a xs, H a = some (.tup xs) → H' a = some (.tup xs)
  frz : ∀ a o u, H a = some (.frz o u) → H' a = some (.frz o u)

section
variable {K : PySem.W.Frag} {H H' H1 H2 : Hp} {η η' η1 η2 μ μ' μ1 μ2 : List Addr}
theorem Grow.refl : Grow μ H μ H := ⟨⟨[], by simp⟩, fun a o h n => ⟨h, n⟩, fun _ _ h => h, fun _ _ _ h => h⟩
theorem Grow.trans (a : Grow μ H μ1 H1) (b : Grow μ1 H1 μ2 H2) : Grow μ H μ2 H2 :=
  ⟨by obtain ⟨m, rfl⟩ := a.pre; obtain ⟨n, rfl⟩ := b.pre; exact ⟨m ++ n, by simp⟩,
   fun c o h n => b.keep c o (a.keep c o h n).1 (a.keep c o h n).2, fun c xs h => b.tup c xs (a.tup c xs h), fun c o u h => b.frz c o u (a.frz c o u h)⟩
theorem Ext.refl : Ext η μ H η μ H := ⟨⟨[], by simp⟩, fun a o h n m => ⟨h, n, m⟩, fun _ _ h => h, fun _ _ _ h => h⟩
theorem Ext.trans (a : Ext η μ H η1 μ1 H1) (b : Ext η1 μ1 H1 η2 μ2 H2) : Ext η μ H η2 μ2 H2 :=
  ⟨by obtain ⟨m, rfl⟩ := a.pre; obtain ⟨n, rfl⟩ := b.pre; exact ⟨m ++ n, by simp⟩,
   fun c o h n m => b.keep c o (a.keep c o h n m).1 (a.keep c o h n m).2.1 (a.keep c o h n m).2.2, fun c xs h => b.tup c xs (a.tup c xs h), fun c o u h => b.frz c o u (a.frz c o u h)⟩
theorem Grow.ext (g : Grow μ H μ' H') : Ext η μ H η μ' H' :=
  ⟨g.pre, fun a o h n m => ⟨(g.keep a o h n).1, (g.keep a o h n).2, m⟩, g.tup, g.frz⟩

theorem SqT.ext (e : Ext η μ H η' μ' H') {a : Addr} {xs : List V} (h : SqT K H a xs) : SqT K H' a xs := by
  rcases h with (h | ⟨o, h⟩) | h
  · exact .inl (.inl (e.tup _ _ h))
  · exact .inl (.inr ⟨o, e.frz _ _ _ h⟩)
  · exact .inr h
mutual
theorem RV.ext (e : Ext η μ H η' μ' H') : ∀ {d : D} {v : V}, RV K H η μ d v → RV K H' η' μ' d v
  | _, _, .non => .non
  | _, _, .bl b => .bl b
  | _, _, .int i => .int i
  | _, _, .str x => .str x
  | _, _, .tup h r => .tup (SqT.ext e h) (RVs.ext e r)
  | _, _, .lst hm hn h r => .lst (e.keep _ _ h hm hn).2.1 (e.keep _ _ h hm hn).2.2 (e.keep _ _ h hm hn).1 (RVs.ext e r)
  | _, _, .scr h r => .scr (h.imp (fun ⟨o, z⟩ => ⟨o, e.frz _ _ _ z⟩) id) (RVs.ext e r)
  | _, _, .ref h => .ref (by
      obtain ⟨m, rfl⟩ := e.pre
      rw [List.getElem?_append_left (List.getElem?_eq_some_iff.mp h).1]; exact h)
  | _, _, .key h => .key (e.tup _ _ h)
theorem RVs.ext (e : Ext η μ H η' μ' H') : ∀ {ds : List D} {vs : List V}, RVs K H η μ ds vs → RVs K H' η' μ' ds vs
  | _, _, .nil => .nil
  | _, _, .cons h r => .cons (RV.ext e h) (RVs.ext e r)
end
theorem RVs.length : ∀ {ds : List D} {vs : List V}, RVs K H η μ ds vs → ds.length = vs.length
  | _, _, .nil => rfl
  | _, _, .cons _ r => by simp [RVs.length r]
theorem RVs.get : ∀ {ds : List D} {vs : List V} {i : Nat} {d : D}, RVs K H η μ ds vs → ds[i]? = some d → ∃ v, vs[i]? = some v ∧ RV K H η μ d v
  | _, _, _, _, .nil, e => by simp at e
  | _, _, 0, _, .cons r _, e => by simp at e; subst e; exact ⟨_, rfl, r⟩
  | _, _, i + 1, d, .cons _ t, e => by
    obtain ⟨v, h1, h2⟩ := RVs.get (i := i) (d := d) t (by simpa using e)
    exact ⟨v, by simpa using h1, h2⟩
theorem RVs.append : ∀ {ds es : List D} {vs ws : List V}, RVs K H η μ ds vs → RVs K H η μ es ws → RVs K H η μ (ds ++ es) (vs ++ ws)
  | _, _, _, _, .nil, s => s
  | _, _, _, _, .cons r t, s => .cons r (RVs.append t s)
theorem RVs.set {d : D} {v : V} (r : RV K H η μ d v) : ∀ {ds : List D} {vs : List V} (i : Nat), RVs K H η μ ds vs → RVs K H η μ (ds.set i d) (vs.set i v)
  | _, _, _, .nil => .nil
  | _, _, 0, .cons _ t => .cons r t
  | _, _, i + 1, .cons q t => .cons q (RVs.set r i t)
theorem RVs.take : ∀ {ds : List D} {vs : List V} (n : Nat), RVs K H η μ ds vs → RVs K H η μ (ds.take n) (vs.take n)
  | _, _, 0, _ => by simpa using .nil
  | _, _, _ + 1, .nil => .nil
  | _, _, n + 1, .cons r t => .cons r (RVs.take n t)
theorem RVs.drop : ∀ {ds : List D} {vs : List V} (n : Nat), RVs K H η μ ds vs → RVs K H η μ (ds.drop n) (vs.drop n)
  | _, _, 0, r => r
  | _, _, _ + 1, .nil => .nil
  | _, _, n + 1, .cons _ t => RVs.drop n t

/-- the environment -/
structure RE (K : PySem.W.Frag) (H : Hp) (η μ : List Addr) (ρ : DEnv) (σ : St) : Prop where
  len : ρ.length = σ.length
  get : ∀ (i : Nat) (d : D), ρ[i]? = some (some d) → ∃ v, σ[i]? = some (some v) ∧ RV K H η μ d v
theorem RE.ext (e : Ext η μ H η' μ' H') {ρ : DEnv} {σ : St} (r : RE K H η μ ρ σ) : RE K H' η' μ' ρ σ :=
  ⟨r.len, fun i d h => let ⟨v, a, b⟩ := r.get i d h; ⟨v, a, b.ext e⟩⟩
theorem RE.set {ρ : DEnv} {σ : St} (r : RE K H η μ ρ σ) {d : D} {v : V} (h : RV K H η μ d v) (i : Nat) : RE K H η μ (ρ.set i (some d)) (σ.set i (some v)) := by
  refine ⟨by simp [r.len], fun j e q => ?_⟩
  by_cases hj : i = j
  · subst hj
    have hl : i < ρ.length := by
      have := (List.getElem?_eq_some_iff.mp q).1
      simpa using this
    rw [List.getElem?_set_self hl] at q
    cases q
    exact ⟨v, by rw [List.getElem?_set_self (by rw [← r.len]; exact hl)], h⟩
  · rw [List.getElem?_set_ne hj] at q ⊢
    exact r.get j e q
theorem RE.del {ρ : DEnv} {σ : St} (r : RE K H η μ ρ σ) (i : Nat) : RE K H η μ (ρ.set i none) (σ.set i none) := by
  refine ⟨by simp [r.len], fun j e q => ?_⟩
  by_cases hj : i = j
  · subst hj
    have hl : i < ρ.length := by
      have := (List.getElem?_eq_some_iff.mp q).1
      simpa using this
    rw [List.getElem?_set_self hl] at q
    cases q
  · rw [List.getElem?_set_ne hj] at q ⊢
    exact r.get j e q

/-- the pairs of a dict -/
inductive RKs {κ : Type} (K : PySem.W.Frag) (H : Hp) (η μ : List Addr) : List (κ × D) → List (κ × V) → Prop
  | nil : RKs K H η μ [] []
  | cons {k : κ} {d : D} {v : V} {ds : List (κ × D)} {vs : List (κ × V)} : RV K H η μ d v → RKs K H η μ ds vs → RKs K H η μ ((k, d) :: ds) ((k, v) :: vs)
theorem RKs.ext {κ : Type} (e : Ext η μ H η' μ' H') : ∀ {ds : List (κ × D)} {vs : List (κ × V)}, RKs K H η μ ds vs → RKs K H' η' μ' ds vs
  | _, _, .nil => .nil
  | _, _, .cons h r => .cons (h.ext e) (RKs.ext e r)
def COk (K : PySem.W.Frag) (H : Hp) (η μ : List Addr) : Cell → Option HO → Prop
  | .lst ds, o => ∃ vs, o = some (.lst vs) ∧ RVs K H η μ ds vs
  | .dct ds, o => ∃ vs, o = some (.dT vs) ∧ RKs K H η μ ds vs
  | .dlk ds, o => ∃ ob vs, o = some (.frz ob (.dT vs)) ∧ RKs K H η μ ds vs
  | .dkk ds, o => ∃ vs, o = some (.dK vs) ∧ RKs K H η μ ds vs
  | .dkl ds, o => ∃ ob vs, o = some (.frz ob (.dK vs)) ∧ RKs K H η μ ds vs
theorem COk.ext (e : Ext η μ H η' μ' H') {c : Cell} {o : Option HO} (h : COk K H η μ c o) : COk K H' η' μ' c o := by
  cases c with
  | lst ds => obtain ⟨vs, a, b⟩ := h; exact ⟨vs, a, b.ext e⟩
  | dct ds => obtain ⟨vs, a, b⟩ := h; exact ⟨vs, a, b.ext e⟩
  | dlk ds => obtain ⟨ob, vs, a, b⟩ := h; exact ⟨ob, vs, a, b.ext e⟩
  | dkk ds => obtain ⟨vs, a, b⟩ := h; exact ⟨vs, a, b.ext e⟩
  | dkl ds => obtain ⟨ob, vs, a, b⟩ := h; exact ⟨ob, vs, a, b.ext e⟩
theorem COk.isSome {c : Cell} {o : Option HO} (h : COk K H η μ c o) : o ≠ none := by
  cases c with
  | lst ds => obtain ⟨vs, rfl, b⟩ := h; exact fun z => nomatch z
  | dct ds => obtain ⟨vs, rfl, b⟩ := h; exact fun z => nomatch z
  | dlk ds => obtain ⟨ob, vs, rfl, b⟩ := h; exact fun z => nomatch z
  | dkk ds => obtain ⟨vs, rfl, b⟩ := h; exact fun z => nomatch z
  | dkl ds => obtain ⟨ob, vs, rfl, b⟩ := h; exact fun z => nomatch z
theorem COk.notTup {c : Cell} {xs : List V} (h : COk K H η μ c (some (.tup xs))) : False := by
  cases c with
  | lst ds => obtain ⟨vs, e, b⟩ := h; cases e
  | dct ds => obtain ⟨vs, e, b⟩ := h; cases e
  | dlk ds => obtain ⟨ob, vs, e, b⟩ := h; cases e
  | dkk ds => obtain ⟨vs, e, b⟩ := h; cases e
  | dkl ds => obtain ⟨ob, vs, e, b⟩ := h; cases e

structure Rp (K : PySem.W.Frag) (η μ : List Addr) (S : DStore) (H : Hp) : Prop where
  len : μ.length = S.length
  nodup : μ.Nodup
  cell : ∀ (n : Nat) (c : Cell), S[n]? = some c → ∃ a, μ[n]? = some a ∧ COk K H η μ c (H a)
  hid : ∀ a ∈ η, a ∉ μ ∧ H a ≠ none ∧ (∀ xs, H a ≠ some (.tup xs)) ∧ ∀ o u, H a ≠ some (.frz o u)
theorem Rp.at (r : Rp K η μ S H) {a : Addr} (h : a ∈ μ) : ∃ (n : Nat) (c : Cell), S[n]? = some c ∧ μ[n]? = some a ∧ COk K H η μ c (H a) := by
  obtain ⟨n, hn, e⟩ := List.getElem_of_mem h
  have hn' : n < S.length := by rw [← r.len]; exact hn
  obtain ⟨b, hb, hc⟩ := r.cell n S[n] (List.getElem?_eq_getElem hn')
  have : b = a := by
    rw [List.getElem?_eq_getElem hn] at hb
    cases hb; exact e
  subst this
  exact ⟨n, S[n], List.getElem?_eq_getElem hn', hb, hc⟩
theorem Rp.fresh {S : DStore} (r : Rp K η μ S H) {p : Addr} (h : H p = none) : p ∉ μ ∧ p ∉ η :=
  ⟨fun z => let ⟨_, _, _, _, c⟩ := r.at z; c.isSome h, fun z => (r.hid p z).2.1 h⟩

theorem grow_new {S : DStore} (r : Rp K η μ S H) {p : Addr} {o : HO} (h : H p = none) : Grow μ H μ (upd H p o) :=
  ⟨⟨[], by simp⟩, fun a u e n => ⟨by rw [upd_ne (ne_of_none e h)]; exact e, n⟩, fun a xs e => by rw [upd_ne (ne_of_none e h)]; exact e, fun a u w e => by rw [upd_ne (ne_of_none e h)]; exact e⟩
/-- a new thing that is not in the store -/
theorem rp_new {S : DStore} (r : Rp K η μ S H) {p : Addr} {o : HO} (h : H p = none) : Rp K η μ S (upd H p o) := by
  have g := (grow_new (o := o) r h).ext (η := η)
  have f := r.fresh h
  refine ⟨r.len, r.nodup, fun n c e => ?_, fun a ha => ?_⟩
  · obtain ⟨a, ha, hc⟩ := r.cell n c e
    have : a ≠ p := fun z => f.1 (z ▸ List.mem_of_getElem? ha)
    exact ⟨a, ha, by rw [upd_ne this]; exact hc.ext g⟩
  · have : a ≠ p := fun z => f.2 (z ▸ ha)
    rw [upd_ne this]; exact r.hid a ha
theorem rv_new_lst {S : DStore} (r : Rp K η μ S H) {p : Addr} {ds : List D} {vs : List V} (h : H p = none) (q : RVs K H η μ ds vs) : RV K (upd H p (.lst vs)) η μ (.lst ds) (.ref p) :=
  .lst (r.fresh h).1 (r.fresh h).2 upd_same (q.ext (grow_new r h).ext)
theorem rv_new_tup {S : DStore} (r : Rp K η μ S H) {p : Addr} {ds : List D} {vs : List V} (h : H p = none) (q : RVs K H η μ ds vs) : RV K (upd H p (.tup vs)) η μ (.tup ds) (.ref p) :=
  .tup (.inl (.inl upd_same)) (q.ext (grow_new r h).ext)
/-- a new list in the store -/
theorem grow_cell {S : DStore} (r : Rp K η μ S H) {p : Addr} {o : HO} (h : H p = none) : Grow μ H (μ ++ [p]) (upd H p o) :=
  ⟨⟨[p], rfl⟩, fun a u e n => ⟨by rw [upd_ne (ne_of_none e h)]; exact e, fun z => by
    rcases List.mem_append.mp z with z | z
    · exact n z
    · exact ne_of_none e h (by simpa using z)⟩, fun a xs e => by rw [upd_ne (ne_of_none e h)]; exact e, fun a u w e => by rw [upd_ne (ne_of_none e h)]; exact e⟩
theorem rp_cell {S : DStore} (r : Rp K η μ S H) {p : Addr} {ds : List D} {vs : List V} (h : H p = none) (q : RVs K H η μ ds vs) : Rp K η (μ ++ [p]) (S ++ [.lst ds]) (upd H p (.lst vs)) := by
  have g := (grow_cell (o := .lst vs) r h).ext (η := η)
  have f := r.fresh h
  refine ⟨by simp [r.len], ?_, fun n c e => ?_, fun a ha => ?_⟩
  · rw [List.nodup_append]
    exact ⟨r.nodup, by simp, fun a ha b hb => by simp at hb; subst hb; exact fun z => f.1 (z ▸ ha)⟩
  · by_cases hn : n < S.length
    · rw [List.getElem?_append_left hn] at e
      obtain ⟨a, ha, hc⟩ := r.cell n c e
      have : a ≠ p := fun z => f.1 (z ▸ List.mem_of_getElem? ha)
      refine ⟨a, by rw [List.getElem?_append_left (by rw [r.len]; exact hn)]; exact ha, by rw [upd_ne this]; exact hc.ext g⟩
    · have hn' : n = S.length := by
        have := (List.getElem?_eq_some_iff.mp e).1
        simp at this
        omega
      subst hn'
      simp at e
      subst e
      exact ⟨p, by rw [← r.len]; simp, vs, upd_same, q.ext g⟩
  · have : a ≠ p := fun z => f.2 (z ▸ ha)
    have q := r.hid a ha
    rw [upd_ne this]
    exact ⟨fun z => by
      rcases List.mem_append.mp z with z | z
      · exact q.1 z
      · exact this (by simpa using z), q.2⟩
theorem rp_cellD {S : DStore} (r : Rp K η μ S H) {p : Addr} {ds : List (List L2.Key × D)} {vs : List (List L2.Key × V)} (h : H p = none) (q : RKs K H η μ ds vs) : Rp K η (μ ++ [p]) (S ++ [.dct ds]) (upd H p (.dT vs)) := by
  have g := (grow_cell (o := .dT vs) r h).ext (η := η)
  have f := r.fresh h
  refine ⟨by simp [r.len], ?_, fun n c e => ?_, fun a ha => ?_⟩
  · rw [List.nodup_append]
    exact ⟨r.nodup, by simp, fun a ha b hb => by simp at hb; subst hb; exact fun z => f.1 (z ▸ ha)⟩
  · by_cases hn : n < S.length
    · rw [List.getElem?_append_left hn] at e
      obtain ⟨a, ha, hc⟩ := r.cell n c e
      have : a ≠ p := fun z => f.1 (z ▸ List.mem_of_getElem? ha)
      refine ⟨a, by rw [List.getElem?_append_left (by rw [r.len]; exact hn)]; exact ha, by rw [upd_ne this]; exact hc.ext g⟩
    · have hn' : n = S.length := by
        have := (List.getElem?_eq_some_iff.mp e).1
        simp at this
        omega
      subst hn'
      simp at e
      subst e
      exact ⟨p, by rw [← r.len]; simp, vs, upd_same, q.ext g⟩
  · have : a ≠ p := fun z => f.2 (z ▸ ha)
    have q := r.hid a ha
    rw [upd_ne this]
    exact ⟨fun z => by
      rcases List.mem_append.mp z with z | z
      · exact q.1 z
      · exact this (by simpa using z), q.2⟩
theorem rp_cellK {S : DStore} (r : Rp K η μ S H) {p : Addr} {ds : List (L2.Key × D)} {vs : List (L2.Key × V)} (h : H p = none) (q : RKs K H η μ ds vs) : Rp K η (μ ++ [p]) (S ++ [.dkk ds]) (upd H p (.dK vs)) := by
  have g := (grow_cell (o := .dK vs) r h).ext (η := η)
  have f := r.fresh h
  refine ⟨by simp [r.len], ?_, fun n c e => ?_, fun a ha => ?_⟩
  · rw [List.nodup_append]
    exact ⟨r.nodup, by simp, fun a ha b hb => by simp at hb; subst hb; exact fun z => f.1 (z ▸ ha)⟩
  · by_cases hn : n < S.length
    · rw [List.getElem?_append_left hn] at e
      obtain ⟨a, ha, hc⟩ := r.cell n c e
      have : a ≠ p := fun z => f.1 (z ▸ List.mem_of_getElem? ha)
      refine ⟨a, by rw [List.getElem?_append_left (by rw [r.len]; exact hn)]; exact ha, by rw [upd_ne this]; exact hc.ext g⟩
    · have hn' : n = S.length := by
        have := (List.getElem?_eq_some_iff.mp e).1
        simp at this
        omega
      subst hn'
      simp at e
      subst e
      exact ⟨p, by rw [← r.len]; simp, vs, upd_same, q.ext g⟩
  · have : a ≠ p := fun z => f.2 (z ▸ ha)
    have q := r.hid a ha
    rw [upd_ne this]
    exact ⟨fun z => by
      rcases List.mem_append.mp z with z | z
      · exact q.1 z
      · exact this (by simpa using z), q.2⟩
theorem rv_cell {S : DStore} (r : Rp K η μ S H) {p : Addr} {H' : Hp} : RV K H' η (μ ++ [p]) (.ref S.length) (.ref p) := .ref (by rw [← r.len]; simp)
/-- a cell is changed -/
theorem grow_set {S : DStore} (r : Rp K η μ S H) {a : Addr} {n : Nat} {o u0 : HO} (h : μ[n]? = some a) (e0 : H a = some u0) (nf : ∀ o u, u0 ≠ .frz o u := by intro _ _ z; cases z) : Grow μ H μ (upd H a o) := by
  have hm : a ∈ μ := List.mem_of_getElem? h
  obtain ⟨_, c, _, _, hc⟩ := r.at hm
  refine ⟨⟨[], by simp⟩, fun b u e n => ⟨?_, n⟩, fun b xs e => ?_, fun b u w e => ?_⟩
  · have ne : b ≠ a := fun z => n (by rw [z]; exact hm)
    rw [upd_ne ne]; exact e
  · rw [upd_ne (fun z => by subst z; rw [e] at hc; exact hc.notTup)]; exact e
  · rw [upd_ne (fun z => by subst z; rw [e0] at e; cases e; exact nf _ _ rfl)]; exact e
/-- a cell holds another thing -/
theorem rp_setC {S : DStore} (r : Rp K η μ S H) {a : Addr} {n : Nat} {c' : Cell} {o : HO} (h : μ[n]? = some a) (g : ∀ c b, b ≠ a → COk K H η μ c (H b) → COk K (upd H a o) η μ c (H b)) (q : COk K (upd H a o) η μ c' (some o)) : Rp K η μ (S.set n c') (upd H a o) := by
  refine ⟨by simp [r.len], r.nodup, fun m c e => ?_, fun b hb => ?_⟩
  · by_cases hm : n = m
    · subst hm
      have hl : n < S.length := by
        have := (List.getElem?_eq_some_iff.mp e).1
        simpa using this
      rw [List.getElem?_set_self hl] at e
      cases e
      exact ⟨a, h, by rw [upd_same]; exact q⟩
    · rw [List.getElem?_set_ne hm] at e
      obtain ⟨b, hb, hc⟩ := r.cell m c e
      have : b ≠ a := fun z => by
        subst z
        exact hm ((List.getElem?_inj (List.getElem?_eq_some_iff.mp h).1 r.nodup).mp (h.trans hb.symm))
      exact ⟨b, hb, by rw [upd_ne this]; exact g c b this hc⟩
  · have : b ≠ a := fun z => (r.hid b hb).1 (z ▸ List.mem_of_getElem? h)
    rw [upd_ne this]; exact r.hid b hb
theorem rp_set {S : DStore} (r : Rp K η μ S H) {a : Addr} {n : Nat} {ds : List D} {vs : List V} {u0 : HO} (h : μ[n]? = some a) (e0 : H a = some u0) (q : RVs K H η μ ds vs) (nf : ∀ o u, u0 ≠ .frz o u := by intro _ _ z; cases z) : Rp K η μ (S.set n (.lst ds)) (upd H a (.lst vs)) := by
  have g := (grow_set (o := .lst vs) r h e0 nf).ext (η := η)
  exact rp_setC r h (fun c b _ hc => hc.ext g) ⟨vs, rfl, q.ext g⟩
theorem rp_setD {S : DStore} (r : Rp K η μ S H) {a : Addr} {n : Nat} {ds : List (List L2.Key × D)} {vs : List (List L2.Key × V)} {u0 : HO} (h : μ[n]? = some a) (e0 : H a = some u0) (q : RKs K H η μ ds vs) (nf : ∀ o u, u0 ≠ .frz o u := by intro _ _ z; cases z) : Rp K η μ (S.set n (.dct ds)) (upd H a (.dT vs)) := by
  have g := (grow_set (o := .dT vs) r h e0 nf).ext (η := η)
  exact rp_setC r h (fun c b _ hc => hc.ext g) ⟨vs, rfl, q.ext g⟩
theorem rp_lock {S : DStore} (r : Rp K η μ S H) {a : Addr} {n : Nat} {ds : List (List L2.Key × D)} {vs : List (List L2.Key × V)} {ob : Obj} (h : μ[n]? = some a) (e0 : H a = some (.dT vs)) (q : RKs K H η μ ds vs) : Rp K η μ (S.set n (.dlk ds)) (upd H a (.frz ob (.dT vs))) := by
  have g := (grow_set (o := .frz ob (.dT vs)) r h e0).ext (η := η)
  exact rp_setC r h (fun c b _ hc => hc.ext g) ⟨ob, vs, rfl, q.ext g⟩
theorem rp_setK {S : DStore} (r : Rp K η μ S H) {a : Addr} {n : Nat} {ds : List (L2.Key × D)} {vs : List (L2.Key × V)} {u0 : HO} (h : μ[n]? = some a) (e0 : H a = some u0) (q : RKs K H η μ ds vs) (nf : ∀ o u, u0 ≠ .frz o u := by intro _ _ z; cases z) : Rp K η μ (S.set n (.dkk ds)) (upd H a (.dK vs)) := by
  have g := (grow_set (o := .dK vs) r h e0 nf).ext (η := η)
  exact rp_setC r h (fun c b _ hc => hc.ext g) ⟨vs, rfl, q.ext g⟩
theorem rp_lockK {S : DStore} (r : Rp K η μ S H) {a : Addr} {n : Nat} {ds : List (L2.Key × D)} {vs : List (L2.Key × V)} {ob : Obj} (h : μ[n]? = some a) (e0 : H a = some (.dK vs)) (q : RKs K H η μ ds vs) : Rp K η μ (S.set n (.dkl ds)) (upd H a (.frz ob (.dK vs))) := by
  have g := (grow_set (o := .frz ob (.dK vs)) r h e0).ext (η := η)
  exact rp_setC r h (fun c b _ hc => hc.ext g) ⟨ob, vs, rfl, q.ext g⟩
section unlock
variable {a : Addr} {ob : Obj} {u o : HO}
/-- what a lock holds: no tuple, no list -/
structure Lk (u : HO) : Prop where
  t : ∀ xs, u ≠ .tup xs
  l : ∀ xs, u ≠ .lst xs
theorem lkT {vs : List (List L2.Key × V)} : Lk (.dT vs) := ⟨(fun _ z => nomatch z), (fun _ z => nomatch z)⟩
theorem lkK {vs : List (L2.Key × V)} : Lk (.dK vs) := ⟨(fun _ z => nomatch z), (fun _ z => nomatch z)⟩
theorem sqt_un {b : Addr} {xs : List V} (lk : Lk u) (e0 : H a = some (.frz ob u)) (h : SqT K H b xs) : SqT K (upd H a o) b xs := by
  rcases h with (h | ⟨o', h⟩) | h
  · exact .inl (.inl (by rw [upd_ne (fun z => by rw [z, e0] at h; cases h)]; exact h))
  · exact .inl (.inr ⟨o', by rw [upd_ne (fun z => by rw [z, e0] at h; cases h; exact lk.t _ rfl)]; exact h⟩)
  · exact .inr h
mutual
theorem RV.un (lk : Lk u) (hm : a ∈ μ) (e0 : H a = some (.frz ob u)) : ∀ {d : D} {v : V}, RV K H η μ d v → RV K (upd H a o) η μ d v
  | _, _, .non => .non
  | _, _, .bl b => .bl b
  | _, _, .int i => .int i
  | _, _, .str x => .str x
  | _, _, .tup h r => .tup (sqt_un lk e0 h) (RVs.un lk hm e0 r)
  | _, _, .lst h1 h2 h r => .lst h1 h2 (by rw [upd_ne (fun z => h1 (by rw [z]; exact hm))]; exact h) (RVs.un lk hm e0 r)
  | _, _, .scr h r => .scr (h.imp (fun ⟨o, z⟩ => ⟨o, by rw [upd_ne (fun y => by rw [y, e0] at z; cases z; exact lk.l _ rfl)]; exact z⟩) id) (RVs.un lk hm e0 r)
  | _, _, .ref h => .ref h
  | _, _, .key h => .key (by rw [upd_ne (fun z => by rw [z, e0] at h; cases h)]; exact h)
theorem RVs.un (lk : Lk u) (hm : a ∈ μ) (e0 : H a = some (.frz ob u)) : ∀ {ds : List D} {ws : List V}, RVs K H η μ ds ws → RVs K (upd H a o) η μ ds ws
  | _, _, .nil => .nil
  | _, _, .cons h r => .cons (RV.un lk hm e0 h) (RVs.un lk hm e0 r)
end
theorem RKs.un {κ : Type} (lk : Lk u) (hm : a ∈ μ) (e0 : H a = some (.frz ob u)) : ∀ {ds : List (κ × D)} {ws : List (κ × V)}, RKs K H η μ ds ws → RKs K (upd H a o) η μ ds ws
  | _, _, .nil => .nil
  | _, _, .cons h r => .cons (h.un lk hm e0) (RKs.un lk hm e0 r)
theorem COk.un (lk : Lk u) (hm : a ∈ μ) (e0 : H a = some (.frz ob u)) {c : Cell} {x : Option HO} (h : COk K H η μ c x) : COk K (upd H a o) η μ c x := by
  cases c with
  | lst ds => obtain ⟨vs, e, b⟩ := h; exact ⟨vs, e, b.un lk hm e0⟩
  | dct ds => obtain ⟨vs, e, b⟩ := h; exact ⟨vs, e, b.un lk hm e0⟩
  | dlk ds => obtain ⟨ob, vs, e, b⟩ := h; exact ⟨ob, vs, e, b.un lk hm e0⟩
  | dkk ds => obtain ⟨vs, e, b⟩ := h; exact ⟨vs, e, b.un lk hm e0⟩
  | dkl ds => obtain ⟨ob, vs, e, b⟩ := h; exact ⟨ob, vs, e, b.un lk hm e0⟩
theorem RE.un {ρ : DEnv} {σ : St} (lk : Lk u) (hm : a ∈ μ) (e0 : H a = some (.frz ob u)) (r : RE K H η μ ρ σ) : RE K (upd H a o) η μ ρ σ :=
  ⟨r.len, fun i d h => let ⟨v, x, y⟩ := r.get i d h; ⟨v, x, y.un lk hm e0⟩⟩
theorem rp_unlock {S : DStore} {n : Nat} {ds : List (List L2.Key × D)} {vs : List (List L2.Key × V)} (r : Rp K η μ S H) (h : μ[n]? = some a) (e0 : H a = some (.frz ob (.dT vs))) (q : RKs K H η μ ds vs) : Rp K η μ (S.set n (.dct ds)) (upd H a (.dT vs)) :=
  rp_setC r h (fun c b _ hc => hc.un lkT (List.mem_of_getElem? h) e0) ⟨vs, rfl, q.un lkT (List.mem_of_getElem? h) e0⟩
theorem rp_unlockK {S : DStore} {n : Nat} {ds : List (L2.Key × D)} {vs : List (L2.Key × V)} (r : Rp K η μ S H) (h : μ[n]? = some a) (e0 : H a = some (.frz ob (.dK vs))) (q : RKs K H η μ ds vs) : Rp K η μ (S.set n (.dkk ds)) (upd H a (.dK vs)) :=
  rp_setC r h (fun c b _ hc => hc.un lkK (List.mem_of_getElem? h) e0) ⟨vs, rfl, q.un lkK (List.mem_of_getElem? h) e0⟩
/-- locked, run, unlocked: as a whole things have grown -/
theorem grow_un {H1 : Hp} {μ1 : List Addr} (lk : Lk u) (nf : ∀ o w, u ≠ .frz o w) (hm : a ∈ μ) (e : H a = some u) (g : Grow μ (upd H a (.frz ob u)) μ1 H1) : Grow μ H μ1 (upd H1 a u) := by
  obtain ⟨more, em⟩ := g.pre
  refine ⟨⟨more, em⟩, fun b x eb n => ?_, fun b xs eb => ?_, fun b x w eb => ?_⟩
  · have ne : b ≠ a := fun z => n (by rw [z]; exact hm)
    have := g.keep b x (by rw [upd_ne ne]; exact eb) n
    exact ⟨by rw [upd_ne ne]; exact this.1, this.2⟩
  · have ne : b ≠ a := fun z => by rw [z, e] at eb; cases eb; exact lk.t _ rfl
    rw [upd_ne ne]; exact g.tup b xs (by rw [upd_ne ne]; exact eb)
  · have ne : b ≠ a := fun z => by rw [z, e] at eb; cases eb; exact nf _ _ rfl
    rw [upd_ne ne]; exact g.frz b x w (by rw [upd_ne ne]; exact eb)
end unlock
/-- a hidden list -/
theorem ext_hide {S : DStore} (r : Rp K η μ S H) {p : Addr} {o : HO} (h : H p = none) : Ext η μ H (p :: η) μ (upd H p o) :=
  ⟨⟨[], by simp⟩, fun a u e n m => ⟨by rw [upd_ne (ne_of_none e h)]; exact e, n, fun z => by
    rcases List.mem_cons.mp z with z | z
    · exact ne_of_none e h z
    · exact m z⟩, fun a xs e => by rw [upd_ne (ne_of_none e h)]; exact e, fun a u w e => by rw [upd_ne (ne_of_none e h)]; exact e⟩
theorem rp_hide {S : DStore} (r : Rp K η μ S H) {p : Addr} {vs : List V} (h : H p = none) : Rp K (p :: η) μ S (upd H p (.lst vs)) := by
  have g := ext_hide (o := .lst vs) r h
  have f := r.fresh h
  refine ⟨r.len, r.nodup, fun n c e => ?_, fun a ha => ?_⟩
  · obtain ⟨a, ha, hc⟩ := r.cell n c e
    have : a ≠ p := fun z => f.1 (z ▸ List.mem_of_getElem? ha)
    exact ⟨a, ha, by rw [upd_ne this]; exact hc.ext g⟩
  · rcases List.mem_cons.mp ha with rfl | ha
    · rw [upd_same]; exact ⟨f.1, (fun z => nomatch z), (fun _ z => nomatch z), (fun _ _ z => nomatch z)⟩
    · have : a ≠ p := fun z => f.2 (z ▸ ha)
      rw [upd_ne this]; exact r.hid a ha
theorem rp_hideO {S : DStore} {o : HO} (r : Rp K η μ S H) {p : Addr} (nt : ∀ xs, o ≠ .tup xs) (nf : ∀ a u, o ≠ .frz a u) (h : H p = none) : Rp K (p :: η) μ S (upd H p o) := by
  have g := ext_hide (o := o) r h
  have f := r.fresh h
  refine ⟨r.len, r.nodup, fun n c e => ?_, fun a ha => ?_⟩
  · obtain ⟨a, ha, hc⟩ := r.cell n c e
    have : a ≠ p := fun z => f.1 (z ▸ List.mem_of_getElem? ha)
    exact ⟨a, ha, by rw [upd_ne this]; exact hc.ext g⟩
  · rcases List.mem_cons.mp ha with rfl | ha
    · rw [upd_same]; exact ⟨f.1, (fun z => nomatch z), (fun _ z => nt _ (Option.some.inj z)), (fun _ _ z => nf _ _ (Option.some.inj z))⟩
    · have : a ≠ p := fun z => f.2 (z ▸ ha)
      rw [upd_ne this]; exact r.hid a ha
/-- the hidden list is changed -/
theorem ext_hset {S : DStore} (r : Rp K (p :: η) μ S H) {o : HO} : Ext (p :: η) μ H (p :: η) μ (upd H p o) := by
  have q := r.hid p (by simp)
  refine ⟨⟨[], by simp⟩, fun a u e n m => ⟨?_, n, m⟩, fun b xs e => ?_, fun b u w e => ?_⟩
  · rw [upd_ne (fun z => m (by simp [z]))]; exact e
  · rw [upd_ne (fun z => by subst z; exact q.2.2.1 _ e)]; exact e
  · rw [upd_ne (fun z => by subst z; exact q.2.2.2 _ _ e)]; exact e
theorem rp_hset {S : DStore} (r : Rp K (p :: η) μ S H) {vs : List V} : Rp K (p :: η) μ S (upd H p (.lst vs)) := by
  have g := ext_hset (o := .lst vs) r
  have q := r.hid p (by simp)
  refine ⟨r.len, r.nodup, fun n c e => ?_, fun a ha => ?_⟩
  · obtain ⟨a, ha, hc⟩ := r.cell n c e
    have : a ≠ p := fun z => q.1 (z ▸ List.mem_of_getElem? ha)
    exact ⟨a, ha, by rw [upd_ne this]; exact hc.ext g⟩
  · by_cases hp : a = p
    · subst hp; rw [upd_same]; exact ⟨q.1, (fun z => nomatch z), (fun _ z => nomatch z), (fun _ _ z => nomatch z)⟩
    · rw [upd_ne hp]; exact r.hid a ha
theorem rp_hsetO {S : DStore} {o : HO} (nt : ∀ xs, o ≠ .tup xs) (nf : ∀ a u, o ≠ .frz a u) (r : Rp K (p :: η) μ S H) : Rp K (p :: η) μ S (upd H p o) := by
  have g := ext_hset (o := o) r
  have q := r.hid p (by simp)
  refine ⟨r.len, r.nodup, fun n c e => ?_, fun a ha => ?_⟩
  · obtain ⟨a, ha, hc⟩ := r.cell n c e
    have : a ≠ p := fun z => q.1 (z ▸ List.mem_of_getElem? ha)
    exact ⟨a, ha, by rw [upd_ne this]; exact hc.ext g⟩
  · by_cases hp : a = p
    · subst hp; rw [upd_same]; exact ⟨q.1, (fun z => nomatch z), (fun _ z => nt _ (Option.some.inj z)), (fun _ _ z => nf _ _ (Option.some.inj z))⟩
    · rw [upd_ne hp]; exact r.hid a ha
/-- it comes to light -/
theorem ext_show {p : Addr} : Ext (p :: η) μ H η μ H := ⟨⟨[], by simp⟩, fun a o h n m => ⟨h, n, fun z => m (by simp [z])⟩, fun _ _ h => h, fun _ _ _ h => h⟩
theorem rp_show {S : DStore} {p : Addr} (r : Rp K (p :: η) μ S H) : Rp K η μ S H :=
  ⟨r.len, r.nodup, fun n c e => let ⟨a, ha, hc⟩ := r.cell n c e; ⟨a, ha, hc.ext ext_show⟩, fun a ha => r.hid a (by simp [ha])⟩
theorem ext_showCell {p : Addr} : Ext (p :: η) μ H η (μ ++ [p]) H := ⟨⟨[p], rfl⟩, fun a o h n m => ⟨h, fun z => by
    rcases List.mem_append.mp z with z | z
    · exact n z
    · exact m (by simp at z; simp [z]), fun z => m (by simp [z])⟩, fun _ _ h => h, fun _ _ _ h => h⟩
theorem rp_showCell {S : DStore} {p : Addr} {ds : List D} {vs : List V} (hp : p ∉ η) (r : Rp K (p :: η) μ S H) (h : H p = some (.lst vs)) (q : RVs K H (p :: η) μ ds vs) : Rp K η (μ ++ [p]) (S ++ [.lst ds]) H := by
  have g : Ext (p :: η) μ H η (μ ++ [p]) H := ext_showCell
  have z := r.hid p (by simp)
  refine ⟨by simp [r.len], ?_, fun n c e => ?_, fun a ha => ?_⟩
  · rw [List.nodup_append]
    exact ⟨r.nodup, by simp, fun a ha b hb => by simp at hb; subst hb; exact fun y => z.1 (y ▸ ha)⟩
  · by_cases hn : n < S.length
    · rw [List.getElem?_append_left hn] at e
      obtain ⟨a, ha, hc⟩ := r.cell n c e
      exact ⟨a, by rw [List.getElem?_append_left (by rw [r.len]; exact hn)]; exact ha, hc.ext g⟩
    · have hn' : n = S.length := by
        have := (List.getElem?_eq_some_iff.mp e).1
        simp at this
        omega
      subst hn'
      simp at e
      subst e
      exact ⟨p, by rw [← r.len]; simp, vs, h, q.ext g⟩
  · have y := r.hid a (by simp [ha])
    exact ⟨fun w => by
      rcases List.mem_append.mp w with w | w
      · exact y.1 w
      · simp at w; subst w; exact hp ha, y.2⟩
theorem rp_showCellK {S : DStore} {p : Addr} {ds : List (L2.Key × D)} {vs : List (L2.Key × V)} (hp : p ∉ η) (r : Rp K (p :: η) μ S H) (h : H p = some (.dK vs)) (q : RKs K H (p :: η) μ ds vs) : Rp K η (μ ++ [p]) (S ++ [.dkk ds]) H := by
  have g : Ext (p :: η) μ H η (μ ++ [p]) H := ext_showCell
  have z := r.hid p (by simp)
  refine ⟨by simp [r.len], ?_, fun n c e => ?_, fun a ha => ?_⟩
  · rw [List.nodup_append]
    exact ⟨r.nodup, by simp, fun a ha b hb => by simp at hb; subst hb; exact fun y => z.1 (y ▸ ha)⟩
  · by_cases hn : n < S.length
    · rw [List.getElem?_append_left hn] at e
      obtain ⟨a, ha, hc⟩ := r.cell n c e
      exact ⟨a, by rw [List.getElem?_append_left (by rw [r.len]; exact hn)]; exact ha, hc.ext g⟩
    · have hn' : n = S.length := by
        have := (List.getElem?_eq_some_iff.mp e).1
        simp at this
        omega
      subst hn'
      simp at e
      subst e
      exact ⟨p, by rw [← r.len]; simp, vs, h, q.ext g⟩
  · have y := r.hid a (by simp [ha])
    exact ⟨fun w => by
      rcases List.mem_append.mp w with w | w
      · exact y.1 w
      · simp at w; subst w; exact hp ha, y.2⟩
end
/-! ### dicts with tuple keys, by values -/
theorem key_ofS {X : Cx} {pins : List (Addr × Obj)} {σ : L2.St} {H : Hp} {s : Shared} {b : Addr} {ks : List L2.Key} (I : Inv X pins σ H s) (h : SqT X.K H b (ks.map kV)) : (tupleKind (mixKind X.prog X.w)).is s.heap ks b := by
  obtain ⟨its, r, ⟨o, e, hc, n, hd⟩, hz⟩ := I.tuple h
  exact ⟨o, its.toArray, n, e, hc, hd, by simpa using items_are r⟩
def rIxD (K : PySem.W.Frag) : R2 := fun x y H Q => ∃ (a b : Addr) (kvs : List (List L2.Key × V)) (ks : List L2.Key) (v : V), x = .ref a ∧ y = .ref b ∧ Rd H a (.dT kvs) ∧ SqT K H b (ks.map kV) ∧ valV kvs ks = some v ∧ Q v H
theorem ix_dictS {X : Cx} (hu : X.A.units + 1 < cLine) : IxR X (rIxD X.K) := by
  intro value slice pins s σ H x y v u Q I rx ry h hs
  obtain ⟨a, b, kvs, ks, w, rfl, rfl, e, hb, l, q⟩ := h
  cases rx; cases ry
  obtain ⟨z, hd, xs, rel, dd⟩ := dt_rd I.hok e
  obtain ⟨w', hw, rw'⟩ := RelO.some_of (v := w) (o := (atKey xs ks).map (·.2)) (by rw [← l]; exact rel.val ks)
  obtain ⟨p, hp, hp2⟩ := Option.map_eq_some_iff.mp hw
  refine subscriptTail_builtinR (x := w') dd.typeIs PySem.F.slot_dict_getitem.lookup (wpAny_getItem_heap (Q := fun r s' => r = w' ∧ EP X pins σ Q r s') (tupleKind_room_in1 hu) (key_ofS I hb) dd hp ?_) hs
  rw [hp2]
  exact ⟨rfl, w, H, I.tok _, rw', q⟩
def rSetD : V → V → V → Hp → (Hp → Prop) → Prop := fun o i v H Q => ∃ (a b : Addr) (kvs : List (List L2.Key × V)) (ks : List L2.Key), o = .ref a ∧ i = .ref b ∧ H a = some (.dT kvs) ∧ H b = some (.tup (ks.map kV)) ∧ kvs.length < sizeLine ∧ Q (upd H a (.dT (putK kvs ks v)))
theorem set_dictT {X : Cx} (hu : X.A.units + 1 < cLine) : PSet X rSetD := by
  intro pins s σ H o i v ov iv u Q I ro ri rv h
  obtain ⟨a, b, kvs, ks, rfl, rfl, ha, hb, hl, q⟩ := h
  cases ro
  exact d_setItem hu I (.t ha hb hl) ri rv fun s' I' => ⟨_, I', q⟩
/-! ### dicts, by data -/
def keyOf : D → Option L2.Key
  | .int i => some (.inl i)
  | .str x => some (.inr x)
  | _ => none
def keysOf : List D → Option (List L2.Key)
  | [] => some []
  | d :: ds => (keyOf d).bind fun k => (keysOf ds).map (k :: ·)
def keyD : L2.Key → D
  | .inl i => .int i
  | .inr x => .str x
def valD {κ : Type} [DecidableEq κ] (kvs : List (κ × D)) (k : κ) : Option D := (kvs.find? fun kv => decide (kv.1 = k)).map (·.2)
def putD {κ : Type} [DecidableEq κ] (kvs : List (κ × D)) (k : κ) (v : D) : List (κ × D) :=
  if (kvs.any fun kv => decide (kv.1 = k)) = true then kvs.map (fun kv => if kv.1 = k then (kv.1, v) else kv) else kvs ++ [(k, v)]
section
variable {K : PySem.W.Frag} {H : Hp} {η μ : List Addr}
theorem keyOf_rv {d : D} {v : V} {k : L2.Key} (r : RV K H η μ d v) (h : keyOf d = some k) : v = kV k := by
  cases r <;> simp only [keyOf, Option.some.injEq, reduceCtorEq] at h <;> subst h <;> rfl
theorem keysOf_rv : ∀ {ds : List D} {vs : List V} {ks : List L2.Key}, RVs K H η μ ds vs → keysOf ds = some ks → vs = ks.map kV
  | _, _, _, .nil, h => by simp only [keysOf, Option.some.injEq] at h; subst h; rfl
  | _, _, ks, .cons r t, h => by
    simp only [keysOf, Option.bind_eq_some_iff, Option.map_eq_some_iff] at h
    obtain ⟨k, h1, ks', h2, rfl⟩ := h
    rw [keyOf_rv r h1, keysOf_rv t h2]; rfl
theorem keyD_rv : ∀ ks : List L2.Key, RVs K H η μ (ks.map keyD) (ks.map kV)
  | [] => .nil
  | .inl i :: ks => .cons (.int i) (keyD_rv ks)
  | .inr x :: ks => .cons (.str x) (keyD_rv ks)
section
variable {κ : Type} [DecidableEq κ]
theorem RKs.length : ∀ {ds : List (κ × D)} {vs : List (κ × V)}, RKs K H η μ ds vs → ds.length = vs.length
  | _, _, .nil => rfl
  | _, _, .cons _ r => by simp [RKs.length r]
theorem RKs.keys : ∀ {ds : List (κ × D)} {vs : List (κ × V)}, RKs K H η μ ds vs → ds.map (·.1) = vs.map (·.1)
  | _, _, .nil => rfl
  | _, _, .cons _ r => by simp [RKs.keys r]
theorem RKs.get : ∀ {ds : List (κ × D)} {vs : List (κ × V)} {i : Nat} {k : κ} {v : V}, RKs K H η μ ds vs → vs[i]? = some (k, v) → ∃ d, ds[i]? = some (k, d) ∧ RV K H η μ d v
  | _, _, _, _, _, .nil, e => by simp at e
  | _, _, 0, _, _, .cons r _, e => by simp at e; obtain ⟨rfl, rfl⟩ := e; exact ⟨_, rfl, r⟩
  | _, _, i + 1, k, v, .cons _ t, e => by
    obtain ⟨d, h1, h2⟩ := RKs.get (i := i) (k := k) (v := v) t (by simpa using e)
    exact ⟨d, by simpa using h1, h2⟩
theorem RKs.val (k : κ) : ∀ {ds : List (κ × D)} {vs : List (κ × V)}, RKs K H η μ ds vs → (∀ d, valD ds k = some d → ∃ v, valV vs k = some v ∧ RV K H η μ d v) ∧ (valD ds k = none → valV vs k = none)
  | _, _, .nil => ⟨fun d h => by simp [valD] at h, fun _ => rfl⟩
  | _, _, @RKs.cons _ _ _ _ _ k' d' v' ds vs r t => by
    by_cases e : k' = k
    · subst e
      refine ⟨fun d h => ?_, fun h => ?_⟩
      · simp [valD] at h; subst h; exact ⟨v', by simp [valV], r⟩
      · simp [valD] at h
    · have ih := RKs.val k t
      have e1 : valD ((k', d') :: ds) k = valD ds k := by simp [valD, List.find?_cons, e]
      have e2 : valV ((k', v') :: vs) k = valV vs k := by simp [valV, List.find?_cons, e]
      rw [e1, e2]; exact ih
theorem RKs.any (k : κ) : ∀ {ds : List (κ × D)} {vs : List (κ × V)}, RKs K H η μ ds vs → (ds.any fun kv => decide (kv.1 = k)) = (vs.any fun kv => decide (kv.1 = k))
  | _, _, .nil => rfl
  | _, _, .cons _ t => by simp only [List.any_cons, RKs.any k t]
theorem RKs.app : ∀ {ds es : List (κ × D)} {vs ws : List (κ × V)}, RKs K H η μ ds vs → RKs K H η μ es ws → RKs K H η μ (ds ++ es) (vs ++ ws)
  | _, _, _, _, .nil, s => s
  | _, _, _, _, .cons r t, s => .cons r (RKs.app t s)
theorem RKs.repl {k : κ} {d : D} {v : V} (r : RV K H η μ d v) : ∀ {ds : List (κ × D)} {vs : List (κ × V)}, RKs K H η μ ds vs → RKs K H η μ (ds.map fun kv => if kv.1 = k then (kv.1, d) else kv) (vs.map fun kv => if kv.1 = k then (kv.1, v) else kv)
  | _, _, .nil => .nil
  | _, _, @RKs.cons _ _ _ _ _ k' d' v' ds vs q t => by
    simp only [List.map_cons]
    by_cases e : k' = k
    · simp only [e, if_true]; exact .cons r (RKs.repl r t)
    · simp only [e, if_false]; exact .cons q (RKs.repl r t)
theorem RKs.put {k : κ} {d : D} {v : V} {ds : List (κ × D)} {vs : List (κ × V)} (q : RKs K H η μ ds vs) (r : RV K H η μ d v) : RKs K H η μ (putD ds k d) (putK vs k v) := by
  unfold putD putK
  rw [q.any k]
  split
  · exact RKs.repl r q
  · exact q.app (.cons r .nil)
end
end
end DL

namespace DL
open PySem PySem.Spec PyProof.Rows L2 PySem.W PySem.Calls PyProof.V
/-! ### the pairs of a dict with tuple keys -/
section
variable {X : Cx} {pins : List (Addr × Obj)} {σ : L2.St} {H : Hp} {s : Shared} {d : Addr} {o : Obj}
theorem frzT2 {kvs : List (List L2.Key × V)} (I : Inv X pins σ H s) (h : H d = some (.frz o (.dT kvs))) :
    (d == sysModules) = false ∧ s.heap.get? d = some o ∧ o.ExactDict ∧ ∃ (es : Array DictEntry) (ep : Nat), o.data = .dict es ep ∧ es.size = kvs.length ∧
      ∀ (i : Nat) (k : List L2.Key) (v : V), kvs[i]? = some (k, v) → ∃ (en : DictEntry) (q : Addr), es[i]? = some en ∧ en.key = .ref q ∧ H q = some (.tup (k.map kV)) ∧ RelV v en.val := by
  obtain ⟨hd, z, hs, xs, pr, o', es, ep, ho, hx, hdt, he, _⟩ := I.hok d _ h
  rw [hd] at ho
  cases ho
  refine ⟨hs, hd, hx, es, ep, hdt, ?_, fun i k v e => ?_⟩
  · have l1 : es.size = xs.length := size_of_entries he
    have l2 : kvs.length = xs.length := Paired.length pr
    omega
  · obtain ⟨b, hb, e1, e2, e3⟩ := paired_get pr e
    have q := entry_at he i
    rw [hb] at q
    exact ⟨_, b.2.1, q, rfl, e2, e3⟩
end
/-- the pairs, each a new tuple: the key's own tuple, the value -/
def Itit (d : Addr) (o : Obj) (kvs : List (List L2.Key × V)) : It :=
  ⟨fun i H => H d = some (.frz o (.dT kvs)) ∧ i < kvs.length, fun i H x H' => ∃ (T : Addr) (k : List L2.Key) (v : V) (q : Addr), kvs[i]? = some (k, v) ∧ H q = some (.tup (k.map kV)) ∧ x = .ref T ∧ H T = none ∧ H' = upd H T (.tup [.ref q, v]), fun i H => H d = some (.frz o (.dT kvs)) ∧ kvs.length ≤ i⟩
section
variable {P : Program} {w : World} {K : PySem.W.Frag} {d : Addr} {o : Obj} {es : Array DictEntry} {ep : Nat}
theorem turn_itemsT {kvs : List (List L2.Key × V)} {elts : List Expr} {kk : Nat} {tpos : Pos} (it : Addr) (hod : o.data = .dict es ep) :
    Turn P w K (.Tuple elts kk tpos) (Itit d o kvs) [it] it (fun i h => ∃ ok ov, IsItemIter h it d i kvs.length ep ok ov) where
  mem := by simp
  obj := fun i h st b hb => by
    have e : b = it := by simpa using hb
    subst e
    obtain ⟨ok, ov, e⟩ := st
    exact ⟨_, e, fun v z => nomatch z⟩
  keep := fun i h h' st k => let ⟨ok, ov, e⟩ := st; ⟨ok, ov, k it (by simp) _ e⟩
  item := by
    intro X hP hw hK hc i pins s σ H E I hf st hg
    subst hP hw hK
    obtain ⟨hd, hi⟩ := hg
    obtain ⟨hs, hgd, hx, es', ep', hdt, hsz, ent⟩ := frzT2 I hd
    obtain ⟨rfl, rfl⟩ := dict_ep hod hdt
    obtain ⟨⟨k, v⟩, hkv⟩ : ∃ p, kvs[i]? = some p := ⟨kvs[i], List.getElem?_eq_getElem hi⟩
    obtain ⟨en, q, hen, hkey, hq, hval⟩ := ent i k v hkv
    obtain ⟨ok, ov, he⟩ := st
    have hi' : i < es'.size := by omega
    have hen' : es'[i] = en := by rw [Array.getElem?_eq_getElem hi'] at hen; exact Option.some.inj hen
    have hlt : it < s.heap.objs.size := Heap.lt_size he
    refine DT.nextI (es := es') (by rw [hsz]; exact he) ⟨o, hgd, hx, hdt⟩ hi' fun h' ho hT hz hk => ?_
    rw [hen'] at ho hT
    refine ⟨_, rfl, wpAny_letOwnedTupleGo_items (s := { s with heap := h' }) ho fun h'' he' sb => ?_⟩
    have hT2 : h''.get? s.heap.objs.size = some { cls := .type "tuple", data := .seq #[en.key, en.val] } := (sb.2 _ (Nat.ne_of_gt hlt)).trans hT
    have new : ObjOk X.prog X.w (upd H s.heap.objs.size (.tup [.ref q, v])) h'' s.heap.objs.size (.tup [.ref q, v]) :=
      ⟨by show 2 ≤ sizeLine; decide, [en.key, en.val], .cons hkey (.cons hval .nil), ⟨_, hT2, rfl, _, rfl⟩⟩
    have I1 : Inv X pins σ (upd H s.heap.objs.size (.tup [.ref q, v])) { s with heap := h'' } :=
      I.turnedNew (t' := s.toks) (ch := [it]) (fun b ob hb e => (sb.2 b (by simpa using hb)).trans (hk b ob (by simpa using hb) e)) hf (Nat.le_refl _) new
    refine ⟨.ref s.heap.objs.size, _, I1, rfl, ⟨_, k, v, q, hkv, hq, rfl, I.hok.fresh (Nat.le_refl _), rfl⟩, ⟨en.key, en.val, ?_⟩, fun b hb => ?_⟩
    · rw [← hsz]; exact he'
    · have e : b = it := by simpa using hb
      rw [e, upd_ne (Nat.ne_of_lt hlt)]
      exact (hf it (by simp)).1
  done := by
    intro X hP hw hK hc i pins s σ H E I hf st hg
    subst hP hw hK
    obtain ⟨hd, hi⟩ := hg
    obtain ⟨f0, f1, f2, f3, f4, f5⟩ := hf it (by simp)
    obtain ⟨hs, hgd, hx, es', ep', hdt, hsz, ent⟩ := frzT2 I hd
    obtain ⟨rfl, rfl⟩ := dict_ep hod hdt
    obtain ⟨ok, ov, he⟩ := st
    exact DT.endI (es := es') (I.ok.hd hc) (by rw [hsz]; exact he) ⟨o, hgd, hx, hdt⟩ (by omega) fun h' eb => ⟨rfl, I.turned (t' := s.toks) (fun b ob hb e => eb b ob hb e) f0 f1 f3 f4 f5⟩
  self := fun A i s Q E st h => let ⟨_, _, e⟩ := st; PySem.W.kcp_self e h
end
def iItemsT (td : TE) : TI := fun σ H R => td σ H fun x H1 => ∃ d o kvs, x = .ref d ∧ H1 d = some (.frz o (.dT kvs)) ∧ R (Itit d o kvs) H1
theorem pi_itemsT {X : Cx} {e : Expr} {td : TE} {apos cpos : Pos} {elts : List Expr} {kk : Nat} {tpos : Pos} (he : PE X e td) (hbase : attributeBase e "items" X.env (eval e X.env) = eval e X.env) (hline : (apos.endLine == cpos.line) = true) :
    PI X (.Tuple elts kk tpos) (.Call (.Attribute e "items" apos) [] [] cpos) (iItemsT td) := by
  refine ⟨fun pins s σ H R I h => ?_⟩
  refine wpAny_Call_method (T := "dict") (id := "dict.items") hbase rfl hline F.plainAttrs_dict F.slot_dict_items F.type_dict_items (thn (he.run pins s σ H _ I h) fun u s1 ⟨x, H1, I1, rx, d, o, kvs, ex, hd, q⟩ => ?_)
  subst ex
  obtain rfl : u = Value.ref d := rx
  obtain ⟨hs, hgd, hx, es, ep, hdt, hsz, ent⟩ := frzT2 I1 hd
  have hraw : DT.Raw s1.heap d es ep := ⟨o, hgd, hx, hdt⟩
  refine ⟨hraw.typeIs, fun b q => by cases q; exact ⟨o, hgd, hx.2.1⟩, ?_⟩
  have I2 : Inv X pins σ H1 { s1 with heap := s1.heap.push { cls := .type "dict_items", data := .fields #[.ref d] } } := I1.kept (t' := s1.toks) fun b ob q => Heap.get?_push_of_some _ q
  have fin : wpAny (model X.prog X.w) X.A (pyIter (.ref s1.heap.objs.size)) (PIE X pins σ (.Tuple elts kk tpos) R) X.xe { s1 with heap := s1.heap.push { cls := .type "dict_items", data := .fields #[.ref d] } } := by
    refine DT.iterI (d := d) (es := es) (ep := ep) ⟨_, Heap.get?_push_size _ rfl, rfl, rfl⟩ (hraw.push _) (pi_one (tk := s1.toks) I2 _ (turn_itemsT _ hdt) ⟨.none, .none, ?_⟩ q)
    rw [← hsz]
    exact Heap.get?_push_size _ rfl
  show wpAny _ _ (callWith cpos (.builtin "dict.items") [.ref d] [] []) _ X.xe s1
  exact method_meetsIn F.slot_dict_items F.entry_dict_items rfl (PySem.evalArgs_none ⟨rfl, hraw.typeIs, F.args_dict_items_1 _, _, DT.meetsItems (es := es) (ep := ep) hs, hraw, fin⟩)
end DL

set_option maxHeartbeats 4000000
namespace DL
open PySem PySem.Spec PyProof.Rows L2
/-! ### a tuple once -/
theorem tuple_mul1 (l : Addr) (items : Array Value) (n : Nat) (dd : Option Addr) (sl : Array (Option Value)) (u : Tok) :
    Meets (Builtin.«tuple.__mul__» ⟨[.ref l, .int 1 u], []⟩) (fun _ R s => s.heap.get? l = some { cls := .type "tuple", dict := dd, data := .seq items n, slots := sl } ∧ R (.ok (.ret (Value.ref l))) s) :=
  .of_wp fun prog w A R s h => by
    obtain ⟨hp, g, d, tk, os⟩ := s
    obtain ⟨hl, h⟩ := h
    have f1 := AutoSeq1.idx_int
    have c0 : (decide ((1 : Int) < -(2 ^ 63)) || decide ((1 : Int) ≥ 2 ^ 63)) = false := by decide
    have c1 : (items.isEmpty || (1 : Int) == 1) = true := by simp
    wp_walk using wpAny_loadPart' hl
    repeat (first
      | (refine wpAny_ite_false (decide_eq_false (by rw [c0]; exact Bool.false_ne_true)) ?_; wp_walk using wpAny_loadPart' hl)
      | (refine wpAny_ite_true (decide_eq_true (by rw [c1])) ?_; wp_walk using wpAny_loadPart' hl))
    exact ⟨_, rfl, h⟩
def rRep1 (K : PySem.W.Frag) : R2 := fun x y H Q => ∃ l xs, x = .ref l ∧ y = .int 1 ∧ SqT K H l xs ∧ Q (.ref l) H
theorem op_rep1 {X : Cx} : OpR X (binaryOp .Mult) (rRep1 X.K) := by
  intro pins s σ H x y v u Q I rx ry h
  obtain ⟨l, xs, rfl, rfl, hT, q⟩ := h
  cases rx
  obtain ⟨t, rfl⟩ := ry
  obtain ⟨its, r, ⟨⟨cls, dd, data, sl⟩, ho, hc, n, hd⟩, hs⟩ := I.tuple hT
  simp only at hc hd
  subst hc hd
  exact wpAny_binaryOp_repeat_ref (T := "tuple") (U := "int") (by decide) ⟨_, ho, rfl⟩ (fun s' => typeIs_int s' 1 t) noFill_tuple_mul F.fills_int_mul F.slot_int_rmul repeat_tuple F.slot_int_index.lookup
    (call_meets F.slot_int_rmul (typeIs_int s 1 t) F.entry_int_rmul (F.args_int_rmul_2 _ _) (int_rmul_tuple 1 t l its.toArray n dd sl)
      ⟨ho, rfl, ⟨_, ho, rfl⟩, call_meets F.slot_tuple_mul ⟨_, ho, rfl⟩ F.entry_tuple_mul (F.args_tuple_mul_2 _ _) (tuple_mul1 l its.toArray n dd sl t) ⟨ho, ⟨.ref l, H, I, rfl, q⟩⟩⟩)
/-! ### a tuple not at all -/
theorem tuple_mul0 (l : Addr) (items : Array Value) (n : Nat) (dd : Option Addr) (sl : Array (Option Value)) (u : Tok) (c1 : (items.isEmpty || (0 : Int) == 1) = false) :
    Meets (Builtin.«tuple.__mul__» ⟨[.ref l, .int 0 u], []⟩) (fun _ R s => s.heap.get? l = some { cls := .type "tuple", dict := dd, data := .seq items n, slots := sl } ∧
      R (.ok (.ret (Value.ref s.heap.objs.size))) { s with heap := s.heap.push { cls := Value.type "tuple", data := Data.seq #[] }, toks := s.toks }) :=
  .of_wp fun prog w A R s h => by
    obtain ⟨hp, g, d, tk, os⟩ := s
    obtain ⟨hl, h⟩ := h
    have f1 := AutoSeq1.idx_int
    have c0 : (decide ((0 : Int) < -(2 ^ 63)) || decide ((0 : Int) ≥ 2 ^ 63)) = false := by decide
    have c2 : (decide ((0 : Int) ≤ 0) || items.isEmpty) = true := by simp
    wp_walk using wpAny_loadPart' hl
    repeat (first
      | (refine wpAny_ite_false (decide_eq_false (by rw [c0]; exact Bool.false_ne_true)) ?_; wp_walk using wpAny_loadPart' hl)
      | (refine wpAny_ite_false (decide_eq_false (by rw [c1]; exact Bool.false_ne_true)) ?_; wp_walk using wpAny_loadPart' hl)
      | (refine wpAny_ite_true (decide_eq_true (by rw [c2])) ?_; wp_walk using wpAny_loadPart' hl))
    exact ⟨_, rfl, h⟩
def rRep0 (K : PySem.W.Frag) : R2 := fun x y H Q => ∃ l xs, x = .ref l ∧ y = .int 0 ∧ SqT K H l xs ∧ xs ≠ [] ∧ ∀ p, H p = none → Q (.ref p) (upd H p (.tup []))
theorem op_rep0 {X : Cx} : OpR X (binaryOp .Mult) (rRep0 X.K) := by
  intro pins s σ H x y v u Q I rx ry h
  obtain ⟨l, xs, rfl, rfl, hT, hx, q⟩ := h
  cases rx
  obtain ⟨t, rfl⟩ := ry
  obtain ⟨its, r, ⟨⟨cls, dd, data, sl⟩, ho, hc, n, hd⟩, hs⟩ := I.tuple hT
  simp only at hc hd
  subst hc hd
  have c1 : (its.toArray.isEmpty || (0 : Int) == 1) = false := by
    cases its with
    | nil => cases r; exact absurd rfl hx
    | cons a b => rfl
  exact wpAny_binaryOp_repeat_ref (T := "tuple") (U := "int") (by decide) ⟨_, ho, rfl⟩ (fun s' => typeIs_int s' 0 t) noFill_tuple_mul F.fills_int_mul F.slot_int_rmul repeat_tuple F.slot_int_index.lookup
    (call_meets F.slot_int_rmul (typeIs_int s 0 t) F.entry_int_rmul (F.args_int_rmul_2 _ _) (int_rmul_tuple 0 t l its.toArray n dd sl)
      ⟨ho, rfl, ⟨_, ho, rfl⟩, call_meets F.slot_tuple_mul ⟨_, ho, rfl⟩ F.entry_tuple_mul (F.args_tuple_mul_2 _ _) (tuple_mul0 l its.toArray n dd sl t c1)
        ⟨ho, ⟨.ref s.heap.objs.size, upd H s.heap.objs.size (.tup []), I.laid (t' := s.toks) (fun b o e => Heap.get?_push_of_some _ e) (Nat.le_refl _) (show ObjOk X.prog X.w _ _ _ (.tup []) from ⟨Nat.zero_le _, [], .nil, IsTup.new _ _⟩), rfl, q _ (I.hok.fresh (Nat.le_refl _))⟩⟩⟩)
end DL

set_option maxHeartbeats 4000000
namespace DL
open PySem PySem.Spec PyProof.Rows L2
/-! ### sorted(d), d a dict with pairs of ints as keys; x in a tuple of data -/
section
variable {X : Cx}
def rSortDT : List V → Hp → VK → Prop := fun xs H Q => ∃ d kvs, xs = [V.ref d] ∧ Rd H d (.dT kvs) ∧ (∀ p ∈ kvs, ∃ i j : Int, p.1 = [Sum.inl i, Sum.inl j]) ∧ ∀ (p : Addr) (ys : List V) (bs : List Addr), H p = none → IsKeys H kvs bs → ys.Perm (bs.map V.ref) → Q (.ref p) (upd H p (.lst ys))
theorem isKeys_pair {H : Hp} : ∀ {kvs : List (List L2.Key × V)} {bs : List Addr}, IsKeys H kvs bs → (∀ p ∈ kvs, ∃ i j : Int, p.1 = [Sum.inl i, Sum.inl j]) → ∀ b ∈ bs, ∃ i j : Int, H b = some (.tup [.int i, .int j])
  | _, _, .nil, _, b, hb => absurd hb (by simp)
  | p :: kvs, c :: bs, .cons h t, hp, b, hb => by
    rcases List.mem_cons.mp hb with rfl | hb
    · obtain ⟨i, j, e⟩ := hp p (List.mem_cons_self ..)
      rw [e] at h
      exact ⟨i, j, h⟩
    · exact isKeys_pair t (fun q hq => hp q (List.mem_cons_of_mem _ hq)) b hb
theorem cr_sortedDT (hc : X.calm = true) : CallR X (.builtin "sorted") rSortDT := by
  intro pins s σ H xs us Q I r h
  obtain ⟨d, kvs, rfl, hd, hpair, q⟩ := h
  obtain ⟨u, rfl, rx⟩ := r.one
  cases rx
  obtain ⟨z, hs, ks, pr, o, es, ep, ho, hx, hdt, he, hn⟩ := (show ObjOk X.prog X.w H s.heap d (.dT kvs) from hd.ok I.hok)
  have l1 : es.size = ks.length := size_of_entries he
  have l2 : kvs.length = ks.length := Paired.length pr
  refine Calls.call_function_entry PyProof.Rows.kind_sorted PyProof.Rows.plain_sorted PyProof.Rows.entry_sorted (PyProof.Rows.args_sorted1 _) ?_
  unfold Builtin.«sorted»
  refine wpAny_bind (m := checkCount "sorted" 1 1 _) (wpAny_pure ?_)
  refine wpAny_bind (PySem.W.kdu_collect (A := X.A.in1) (kdl_raw hs hx hdt) (I.ok.hd hc) ho (by omega) fun h' tk acc' kp it => ?_)
  have ea : acc'.toList = ks.map fun x => Value.ref x.2.1 := by
    have hl : acc'.toList.length = ks.length := by rw [Array.length_toList, it.1]; exact l1
    apply List.ext_getElem?
    intro j
    rw [List.getElem?_map]
    cases hj : acc'.toList[j]? with
    | none =>
      have h1 := List.getElem?_eq_none_iff.mp hj
      rw [List.getElem?_eq_none (by omega)]
      all_goals rfl
    | some v =>
      obtain ⟨en, hen, hv⟩ := it.2 j v (by rw [← Array.getElem?_toList]; exact hj)
      have qe := entry_at he j
      rw [hen] at qe
      cases hb : ks[j]? with
      | none =>
        rw [hb] at qe
        exact nomatch (show some en = none from qe)
      | some b =>
        rw [hb] at qe
        have e2 : en = entryOfKey (tupleKind (mixKind X.prog X.w)) b := Option.some.inj qe
        rw [hv, e2]
        all_goals rfl
  have hl : acc'.toList.length = ks.length := by rw [ea, List.length_map]
  have hz : acc'.toList.length ≤ sizeLine := by omega
  have I1 : Inv X pins σ H { s with heap := h', toks := tk } := I.kept kp
  have hkeys := isKeys_of pr
  have hrefs : ∀ v ∈ acc'.toList, ∃ a, v = Value.ref a := fun v hv => by
    rw [ea] at hv
    obtain ⟨x, _, rfl⟩ := List.mem_map.mp hv
    exact ⟨_, rfl⟩
  have hpr : ∀ v ∈ acc'.toList, ∃ x y, Srt.IsPair h' v x y := fun v hv => by
    rw [ea] at hv
    obtain ⟨x, hx, rfl⟩ := List.mem_map.mp hv
    obtain ⟨i, j, ht⟩ := isKeys_pair hkeys hpair x.2.1 (List.mem_map.mpr ⟨x, hx, rfl⟩)
    obtain ⟨_, its2, r2, o, ho, hc, n, hd⟩ := I1.hok _ _ ht
    obtain ⟨u1, u2, rfl, ri, rj⟩ := vals2 r2
    obtain ⟨t1, rfl⟩ := ri
    obtain ⟨t2, rfl⟩ := rj
    exact ⟨i, j, x.2.1, o, t1, t2, n, rfl, ho, hc, hd⟩
  refine wpAny_bind (wpAny_newList ?_ hz)
  have hoL : (h'.push (seqObj "list" acc'.toList.toArray 0)).get? h'.objs.size = some (seqObj "list" acc'.toList.toArray 0) := Heap.get?_push_size _ rfl
  show wpAny _ _ _ _ _ { s with heap := h'.push (seqObj "list" acc'.toList.toArray 0), toks := tk }
  refine wpAny_bind (wpAny_holding (wpAny_call_entry PyProof.Rows.slot_list_sort ⟨_, hoL, rfl⟩ PyProof.Rows.entry_list_sort
    (Srt.list_sort_any (s := { s with heap := h'.push (seqObj "list" acc'.toList.toArray 0), toks := tk }) hoL hz (fun h2 => Srt.pairs_sortable (by omega) (fun v hv => ?_) fun o e => ?_) fun out hp => ⟨_, rfl, ?_⟩)
    (PyProof.Rows.args_list_sort _)))
  · obtain ⟨x, y, p⟩ := hpr v hv
    exact ⟨x, y, p.keeps fun b o e _ => Heap.get?_push_of_some _ e⟩
  · have e' : some o = some (seqObj "list" acc'.toList.toArray 0) := e.symm.trans hoL
    cases e'
    intro c
    exact absurd (Value.type.inj c) (by decide)
  · have h3 : ∀ u ∈ out, ∃ a, u = Value.ref a := fun u hu => hrefs u (hp.mem_iff.mp hu)
    obtain ⟨e', he'⟩ := PyProof.Rows.sortedHeap_at (vs := acc'.toList) (out := out.toArray) hoL
    have hlen : (out.map backV).length ≤ sizeLine := by rw [List.length_map, hp.length_eq]; exact hz
    refine wpAny_pure ⟨_, rfl, .ref h'.objs.size, upd H h'.objs.size (.lst (out.map backV)), I1.laid (t' := tk) (fun b u e => ?_) (Nat.le_refl _)
      (show ObjOk X.prog X.w _ _ _ (.lst (out.map backV)) from ⟨hlen, out, e', vals_back h3, he'⟩), rfl, q _ _ _ (I1.hok.fresh (Nat.le_refl _)) hkeys ?_⟩
    · have hb : b < h'.objs.size := Heap.lt_size e
      rw [PyProof.Rows.sortedHeap_old (Nat.ne_of_lt hb) (by rw [size_push']; exact Nat.lt_succ_of_lt hb)]
      exact Heap.get?_push_of_some _ e
    · have := hp.map backV
      rw [ea, List.map_map] at this
      rw [List.map_map]
      exact this
def rInTup (K : PySem.W.Frag) : R2 := fun x y H Q => ∃ d ds, Dp K H x d ∧ Dp K H y (.tuple ds) ∧ SeqAt.shaped d = true ∧ SeqAt.shaped (.tuple ds) = true ∧ d.depth ≤ 10 ∧ Q (.bl (ds.any fun z => PyData.eqv z d)) H
theorem op_inTup (hu : X.A.units + 64 < cLine) : OpR X (compareOp .In) (rInTup X.K) := by
  intro pins s σ H x y v u Q I rx ry h
  obtain ⟨d, ds, hd, he, sd, se, dd, q⟩ := h
  obtain ⟨as, r1⟩ := Dp.reads I d x v hd rx
  obtain ⟨bs, r2⟩ := Dp.reads I (.tuple ds) y u he ry
  exact SeqAt.in_tuple_reads r2 r1 (SeqAt.canLay_of_shaped se) (SeqAt.canLay_of_shaped sd) (by have := Nat.min_le_right (PyData.depthAll ds) d.depth; omega) ⟨.bl _, H, I, rfl, q⟩
def rNotInTup (K : PySem.W.Frag) : R2 := fun x y H Q => ∃ d ds, Dp K H x d ∧ Dp K H y (.tuple ds) ∧ SeqAt.shaped d = true ∧ SeqAt.shaped (.tuple ds) = true ∧ d.depth ≤ 10 ∧ Q (.bl (!ds.any fun z => PyData.eqv z d)) H
theorem op_notInTup (hu : X.A.units + 64 < cLine) : OpR X (compareOp .NotIn) (rNotInTup X.K) := by
  intro pins s σ H x y v u Q I rx ry h
  obtain ⟨d, ds, hd, he, sd, se, dd, q⟩ := h
  obtain ⟨as, r1⟩ := Dp.reads I d x v hd rx
  obtain ⟨bs, r2⟩ := Dp.reads I (.tuple ds) y u he ry
  exact SeqAt.notIn_tuple_reads r2 r1 (SeqAt.canLay_of_shaped se) (SeqAt.canLay_of_shaped sd) (by have := Nat.min_le_right (PyData.depthAll ds) d.depth; omega) ⟨.bl _, H, I, rfl, q⟩
def rInLst (K : PySem.W.Frag) : R2 := fun x y H Q => ∃ d ds, Dp K H x d ∧ Dp K H y (.list ds) ∧ SeqAt.shaped d = true ∧ SeqAt.shaped (.list ds) = true ∧ d.depth ≤ 10 ∧ Q (.bl (ds.any fun z => PyData.eqv z d)) H
theorem op_inLst (hu : X.A.units + 64 < cLine) : OpR X (compareOp .In) (rInLst X.K) := by
  intro pins s σ H x y v u Q I rx ry h
  obtain ⟨d, ds, hd, he, sd, se, dd, q⟩ := h
  obtain ⟨as, r1⟩ := Dp.reads I d x v hd rx
  obtain ⟨bs, r2⟩ := Dp.reads I (.list ds) y u he ry
  exact SeqAt.in_list_reads r2 r1 (SeqAt.canLay_of_shaped se) (SeqAt.canLay_of_shaped sd) (by have := Nat.min_le_right (PyData.depthAll ds) d.depth; omega) ⟨.bl _, H, I, rfl, q⟩
def rNotInLst (K : PySem.W.Frag) : R2 := fun x y H Q => ∃ d ds, Dp K H x d ∧ Dp K H y (.list ds) ∧ SeqAt.shaped d = true ∧ SeqAt.shaped (.list ds) = true ∧ d.depth ≤ 10 ∧ Q (.bl (!ds.any fun z => PyData.eqv z d)) H
theorem op_notInLst (hu : X.A.units + 64 < cLine) : OpR X (compareOp .NotIn) (rNotInLst X.K) := by
  intro pins s σ H x y v u Q I rx ry h
  obtain ⟨d, ds, hd, he, sd, se, dd, q⟩ := h
  obtain ⟨as, r1⟩ := Dp.reads I d x v hd rx
  obtain ⟨bs, r2⟩ := Dp.reads I (.list ds) y u he ry
  exact SeqAt.notIn_list_reads r2 r1 (SeqAt.canLay_of_shaped se) (SeqAt.canLay_of_shaped sd) (by have := Nat.min_le_right (PyData.depthAll ds) d.depth; omega) ⟨.bl _, H, I, rfl, q⟩
end
end DL

set_option maxHeartbeats 4000000
namespace DL
open PySem PySem.Spec PyProof.Rows L2 HT
/-! ### t[::-1] of a tuple -/
section
variable {prog : Program} {w : World} {A : Around} {E : Value → Shared → Prop} {s : Shared}
theorem places_rev (n : Nat) : Builtin.Slice.slicePlaces ((n : Int) - 1) (-1) (-1) = n := by
  unfold Builtin.Slice.slicePlaces
  rw [if_neg (by decide)]
  by_cases h : n = 0
  · subst h; rfl
  · rw [if_pos (by omega)]
    show (((n : Int) - 1 - (-1) - 1) / (- -1) + 1).toNat = n
    rw [show (- (-1 : Int)) = 1 from rfl, Int.ediv_one]; omega
theorem fm_congr {α β : Type} {f g : α → Option β} : ∀ {l : List α}, (∀ x ∈ l, f x = g x) → l.filterMap f = l.filterMap g
  | [], _ => rfl
  | x :: l, h => by
    rw [List.filterMap_cons, List.filterMap_cons, h x (List.mem_cons_self ..), fm_congr fun y hy => h y (List.mem_cons_of_mem _ hy)]
theorem pick_rev (xs : Array Value) : ((List.range xs.size).filterMap fun (m : Nat) => xs[((xs.size : Int) - 1 + (m : Int) * (-1)).toNat]?).toArray = xs.toList.reverse.toArray := by
  congr 1
  have e : ((List.range xs.size).filterMap fun (m : Nat) => xs[((xs.size : Int) - 1 + (m : Int) * (-1)).toNat]?) = (List.range xs.size).map fun m => xs.toList.getD (xs.size - 1 - m) .none := by
    rw [← List.filterMap_eq_map]
    refine fm_congr fun m hm => ?_
    have hm := List.mem_range.mp hm
    have e1 : ((xs.size : Int) - 1 + (m : Int) * (-1)).toNat = xs.size - 1 - m := by omega
    have hlt : xs.size - 1 - m < xs.toList.length := by rw [Array.length_toList]; omega
    rw [e1, ← Array.getElem?_toList, List.getElem?_eq_getElem hlt]
    simp only [Function.comp, List.getD_eq_getElem?_getD, List.getElem?_eq_getElem hlt, Option.getD_some]
  rw [e]
  apply List.ext_getElem?
  intro i
  by_cases hi : i < xs.size
  · rw [List.getElem?_map, List.getElem?_range hi, List.getElem?_reverse (by rw [Array.length_toList]; exact hi), Array.length_toList]
    have hlt : xs.size - 1 - i < xs.toList.length := by rw [Array.length_toList]; omega
    rw [List.getElem?_eq_getElem hlt]
    simp only [Option.map_some, List.getD_eq_getElem?_getD, List.getElem?_eq_getElem hlt, Option.getD_some]
  · rw [List.getElem?_eq_none (by simp; omega), List.getElem?_eq_none (by simp; omega)]
theorem sliceApplied_rev {sl : Addr} {vl vu vs : Value} {n : Nat} {Q : Int × Int × Nat → Shared → Prop} (hs : s.heap.IsSliceOf sl vl vu vs) (pl : IsPart vl none) (pu : IsPart vu none) (ps : IsPart vs (some (-1)))
    (h : Q ((n : Int) - 1, -1, n) s) : wpAny (model prog w) A (Builtin.Slice.sliceApplied (.ref sl) (pure (n : Int))) Q E s := by
  obtain ⟨os, hos, hcs, hds⟩ := id hs
  unfold Builtin.Slice.sliceApplied Builtin.Slice.sliceFields
  refine wpAny_bind (wpAny_bind (wpAny_field hos hds (x := vl) rfl (wpAny_bind (wpAny_field hos hds (x := vu) rfl (wpAny_bind (wpAny_field hos hds (x := vs) rfl (wpAny_pure ?_)))))))
  refine wpAny_bind (slicePart_ ps ?_)
  show wpAny _ _ (if ((-1 : Int) == 0) = true then _ else _) _ _ s
  rw [if_neg (by decide)]
  refine wpAny_bind (slicePart_ pl (wpAny_bind (slicePart_ pu (wpAny_bind (wpAny_pure ?_)))))
  show wpAny _ _ (pure ((n : Int) - 1, (-1 : Int), Builtin.Slice.slicePlaces ((n : Int) - 1) (-1) (-1))) _ _ s
  rw [places_rev]
  exact wpAny_pure h
theorem getItem_tuple_rev {t sl : Addr} {items : Array Value} {vl vu vs : Value} {Q : Value → Shared → Prop} (ht : IsTup s.heap t items) (hs : s.heap.IsSliceOf sl vl vu vs) (pl : IsPart vl none) (pu : IsPart vu none) (ps : IsPart vs (some (-1)))
    (h : Q (.ref s.heap.objs.size) { s with heap := s.heap.push { cls := .type "tuple", data := .seq items.toList.reverse.toArray } })
    (hsz : items.size ≤ sizeLine) : wpAny (model prog w) A (getItem (.ref t) (.ref sl)) Q E s := by
  have htake : sizeOk (.seq items.toList.reverse.toArray) := by
    show items.toList.reverse.toArray.size ≤ sizeLine
    rw [List.size_toArray, List.length_reverse, Array.length_toList]
    exact hsz
  obtain ⟨os, hos, hcs, hds⟩ := id hs
  have hTs : s.TypeIs (.ref sl) "slice" := ⟨os, hos, hcs⟩
  unfold getItem
  try with_reducible refine wpAny_holding ?_
  first | refine wpAny_bind (wpAny_pure ?_) | skip
  refine wpAny_bind (wpAny_sequenceKey ht.typeIs (by decide) ?_)
  refine wpAny_bind (wpAny_callSpecial?_slot (name := Str.ofString "__getitem__") ht.typeIs PyProof.Rows.slot_tuple_getitem
    (wpAny_call_entry PyProof.Rows.slot_tuple_getitem ht.typeIs entry_tuple_getitem ?_ (args_tuple_getitem _ _)))
  show wpAny _ _ (Builtin.Tuple.tupleItemsOf (.ref t) >>= _) _ _ s
  refine wpAny_bind (tupleItemsOf_ ht ?_)
  refine wpAny_bind (wpAny_typeOf hTs ?_)
  rw [if_pos (by decide)]
  refine wpAny_bind (sliceApplied_rev hs pl pu ps ?_)
  have hno : ¬ ((((items.size : Int) - 1) == 0 && (-1 : Int) == 1 && items.size == items.size) = true) := by
    intro q
    rw [Bool.and_eq_true, Bool.and_eq_true] at q
    exact absurd q.1.2 (by decide)
  show wpAny _ _ (if (((items.size : Int) - 1) == 0 && (-1 : Int) == 1 && items.size == items.size) = true then _ else _) _ _ s
  rw [if_neg hno, pick_rev]
  first
    | exact wpAny_bind (m := Builtin.Tuple.tupleExact _) (wpAny_newObj_type (wpAny_pure ⟨_, rfl, wpAny_pure h⟩) htake)
    | exact wpAny_bind (m := Builtin.Tuple.tupleExact _) (wpAny_newObj_type (wpAny_bind (wpAny_pure (wpAny_pure ⟨_, rfl, wpAny_pure h⟩))) htake)
    | exact wpAny_bind (wpAny_bind (m := Builtin.Tuple.tupleExact _) (wpAny_newObj_type (wpAny_pure (wpAny_pure ⟨_, rfl, wpAny_pure h⟩)) htake))
    | exact wpAny_bind (wpAny_bind (m := Builtin.Tuple.tupleExact _) (wpAny_newObj_type (wpAny_pure ⟨_, rfl, wpAny_pure h⟩) htake))
end
section
variable {X : Cx}
def tRevT (K : PySem.W.Frag) (te : TE) : TE := fun σ H Q => te σ H fun x H1 => ∃ a xs, x = .ref a ∧ SqT K H1 a xs ∧ ∀ p, H1 p = none → Q (.ref p) (upd H1 p (.tup xs.reverse))
theorem pe_revT {e : Expr} {te : TE} {k : Nat} {p1 p2 p3 pos : Pos} (he : PE X e te) : PE X (.Subscript e (.Slice none none (some (.UnaryOp .USub (.Constant (.int 1) k p1) p2)) p3) pos) (tRevT X.K te) := by
  refine ⟨fun pins s σ H Q I h => ?_⟩
  refine Subscript_ (thn (he.run pins s σ H _ I h) fun v s1 ⟨x, H1, I1, r1, q1⟩ => ?_)
  obtain ⟨a, xs, ex, hx, q⟩ := q1
  subst ex
  cases r1
  have hst : PO X (some (.UnaryOp .USub (.Constant (.int 1) k p1) p2)) (tPart (tUn (rU fun i => .int (-i)) (tC (.int 1)))) := po_some (pe_un un_neg pe_int)
  refine wpAny_Slice (thn (po_none.run pins s1 σ H1 (fun o H2 => o = none ∧ H2 = H1) I1 ⟨rfl, rfl⟩) fun vl s2 ⟨l, H2, I2, pl, el, e2⟩ => ?_)
  subst el e2
  refine thn (po_none.run pins s2 σ H2 (fun o H3 => o = none ∧ H3 = H2) I2 ⟨rfl, rfl⟩) fun vu s3 ⟨u, H3, I3, pu, eu, e3⟩ => ?_
  subst eu e3
  refine thn (hst.run pins s3 σ H3 (fun o H4 => o = some (-1) ∧ H4 = H3) I3 ⟨1, rfl, -1, rfl, rfl, rfl⟩) fun vs s4 ⟨o, H4, I4, ps, eo, e4⟩ => ?_
  subst eo e4
  have I5 : Inv X pins σ H4 { s4 with heap := s4.heap.push { cls := .type "slice", data := .fields #[vl, vu, vs] } } := I4.kept (t' := s4.toks) fun b ob q => Heap.get?_push_of_some _ q
  obtain ⟨its, r, ht, hz⟩ := I5.tuple hx
  have hlen := r.length
  show wpAny (model X.prog X.w) X.A (subscriptTail e (.Slice none none (some (.UnaryOp .USub (.Constant (.int 1) k p1) p2)) p3) (.ref a) (.ref s4.heap.objs.size)) (EP X pins σ Q) X.xe { s4 with heap := s4.heap.push { cls := .type "slice", data := .fields #[vl, vu, vs] } }
  refine tail_any (ops := [.ref a, .ref s4.heap.objs.size]) ht.typeIs (PyProof.Rows.slot_tuple_getitem.lookup) ?_ (by with_unfolding_all rfl)
  refine getItem_tuple_rev ht (Heap.IsSliceOf.new _ vl vu vs) pl pu ps ?_ (by rw [List.size_toArray]; omega)
  refine ⟨.ref _, _, I5.laid (t' := s4.toks) (o := .tup xs.reverse) (fun b ob q => Heap.get?_push_of_some _ q) (Nat.le_refl _) ?_, rfl, q _ (I5.hok.fresh (Nat.le_refl _))⟩
  exact ⟨by rw [List.length_reverse]; exact hz, _, r.reverse, ⟨_, Heap.get?_push_size _ rfl, rfl, 0, rfl⟩⟩
end
/-! ### data with empty dicts -/
mutual
def noLst : PyData → Bool
  | .list _ => false
  | .tuple xs => noLsts xs
  | .dict kvs => kvs.isEmpty
  | _ => true
def noLsts : List PyData → Bool
  | [] => true
  | x :: xs => noLst x && noLsts xs
end
mutual
inductive DpE (K : PySem.W.Frag) (H : Hp) : V → PyData → Prop
  | non : DpE K H .non .none
  | bl (b : Bool) : DpE K H (.bl b) (.bool b)
  | int (i : Int) : DpE K H (.int i) (.int i)
  | str (x : Str) : DpE K H (.str x) (.str x)
  | lst {a : Addr} {xs : List V} {ds : List PyData} : SqL K H a xs → DpEs K H xs ds → DpE K H (.ref a) (.list ds)
  | tup {a : Addr} {xs : List V} {ds : List PyData} : SqT K H a xs → DpEs K H xs ds → DpE K H (.ref a) (.tuple ds)
  | dct {a : Addr} : Rd H a (.dT []) → DpE K H (.ref a) (.dict [])
inductive DpEs (K : PySem.W.Frag) (H : Hp) : List V → List PyData → Prop
  | nil : DpEs K H [] []
  | cons {v : V} {vs : List V} {d : PyData} {ds : List PyData} : DpE K H v d → DpEs K H vs ds → DpEs K H (v :: vs) (d :: ds)
end
section
variable {X : Cx} {pins : List (Addr × Obj)} {σ : L2.St} {H : Hp} {s : Shared}
mutual
theorem DpE.reads (I : Inv X pins σ H s) : ∀ (d : PyData) (v : V) (u : Value), DpE X.K H v d → RelV v u → ∃ as, Reads s.heap u d as ∧ (noLst d = true → sysModules ∉ as)
  | .none, _, _, h, r => by
    cases h
    cases r
    exact ⟨_, Reads.none, by simp⟩
  | .bool b, _, _, h, r => by
    cases h
    cases r
    exact ⟨_, Reads.bool b, by simp⟩
  | .int i, _, _, h, r => by
    cases h
    obtain ⟨t, rfl⟩ := r
    exact ⟨_, Reads.int i t, by simp⟩
  | .str x, _, _, h, r => by
    cases h
    obtain ⟨t, rfl⟩ := r
    exact ⟨_, Reads.str x t, by simp⟩
  | .list ds, _, _, h, r => by
    cases h with
    | lst hs ha =>
      cases r
      obtain ⟨its, rv, ⟨o, n, ho, hc, _, hd⟩, _⟩ := I.list hs
      obtain ⟨as, hr, _⟩ := DpE.readsAll I ds _ its ha rv
      exact ⟨_, Reads.list ho hc hd hr, fun z => by simp [noLst] at z⟩
  | .tuple ds, _, _, h, r => by
    cases h with
    | tup hs ha =>
      cases r
      obtain ⟨its, rv, ⟨o, ho, hc, n, hd⟩, _⟩ := I.tuple hs
      obtain ⟨as, hr, hn⟩ := DpE.readsAll I ds _ its ha rv
      exact ⟨_, Reads.tuple ho hc hd hr, fun z => hn (by simpa [noLst] using z)⟩
  | .dict kvs, _, _, h, r => by
    cases h with
    | dct hd =>
      cases r
      rename_i a
      obtain ⟨z, hs, ks, pr, o, es, ep, ho, hx, hdt, he, hn⟩ := (show ObjOk X.prog X.w H s.heap a (.dT []) from hd.ok I.hok)
      cases pr
      have hes : es.toList = [] := he
      refine ⟨_, Reads.dict (kvs := []) (as := []) (bs := []) ho hx.1 hdt (by rw [hes]; exact ReadsAll.nil) (by rw [hes]; exact ReadsAll.nil), fun _ => ?_⟩
      intro hm
      have : sysModules = a := by simpa using hm
      rw [this] at hs
      simp at hs
theorem DpE.readsAll (I : Inv X pins σ H s) : ∀ (ds : List PyData) (vs : List V) (us : List Value), DpEs X.K H vs ds → Vals vs us → ∃ as, ReadsAll s.heap us ds as ∧ (noLsts ds = true → sysModules ∉ as)
  | [], _, _, h, r => by
    cases h
    cases r
    exact ⟨_, ReadsAll.nil, by simp⟩
  | d :: ds, _, _, h, r => by
    cases h with
    | cons h1 h2 =>
      cases r with
      | cons r1 r2 =>
        obtain ⟨as, q1, n1⟩ := DpE.reads I d _ _ h1 r1
        obtain ⟨bs, q2, n2⟩ := DpE.readsAll I ds _ _ h2 r2
        refine ⟨_, ReadsAll.cons q1 q2, fun z => ?_⟩
        simp only [noLsts, Bool.and_eq_true] at z
        intro hm
        rcases List.mem_append.mp hm with h | h
        · exact n1 z.1 h
        · exact n2 z.2 h
end
end
structure RepOkE (p : PyData) : Prop where
  sh : p.showable = true
  dp : p.depth ≤ 50
  nd : p.hasDict = false ∨ noLst p = true
  sz : p.shown.length ≤ sizeLine
section
variable {X : Cx}
theorem call_reprE (hG : X.A.guards = some []) (hu : X.A.units + 64 < cLine) : CallR X (.builtin "repr") (fun xs H Q => ∃ v d, xs = [v] ∧ DpE X.K H v d ∧ RepOkE d ∧ Q (.str d.shown) H) := by
  intro pins s σ H xs us Q I r h
  obtain ⟨v, d, rfl, hd, ok, q⟩ := h
  obtain ⟨u, rfl, ru⟩ := vals1 r
  obtain ⟨as, rd, hn⟩ := DpE.reads I d v u hd ru
  have dep := ok.dp
  have hsm : d.hasDict = true → sysModules ∉ as := fun z => by
    rcases ok.nd with h | h
    · rw [h] at z; cases z
    · exact hn h
  cases hd with
  | int i => obtain ⟨t, rfl⟩ := ru; exact PySem.P.repr_of_int (by have := ok.sh; simpa [PyData.showable] using this) ⟨.str _, H, I.tok _, ⟨_, rfl⟩, q⟩
  | lst h1 h2 =>
    cases ru
    refine repr_of_reads' rd ok.sh hsm hG (by omega) (fun _ _ e => e) (fun h' t tk hk => ?_) ok.sz
    exact ⟨.str _, H, I.kept hk, ⟨_, rfl⟩, q⟩
  | tup h1 h2 =>
    cases ru
    refine repr_of_reads' rd ok.sh hsm hG (by omega) (fun _ _ e => e) (fun h' t tk hk => ?_) ok.sz
    exact ⟨.str _, H, I.kept hk, ⟨_, rfl⟩, q⟩
  | dct h1 =>
    cases ru
    refine repr_of_reads' rd ok.sh hsm hG (by omega) (fun _ _ e => e) (fun h' t tk hk => ?_) ok.sz
    exact ⟨.str _, H, I.kept hk, ⟨_, rfl⟩, q⟩
  | non => cases ru; exact PySem.P.repr_of_none ⟨.str _, H, I.tok _, ⟨_, rfl⟩, q⟩
  | bl b => cases ru; exact PySem.P.repr_of_bool ⟨.str _, H, I.tok _, ⟨_, rfl⟩, (by cases b <;> exact q)⟩
  | str y => obtain ⟨t, rfl⟩ := ru; exact PySem.P.repr_of_str ⟨.str _, H, I.tok _, ⟨_, rfl⟩, q⟩ ok.sz
end
/-! ### a list beside the empty one -/
section
variable {X : Cx}
def rNeNil (K : PySem.W.Frag) : R2 := fun x y H Q => ∃ (a b : Addr) (xs : List V), x = .ref a ∧ y = .ref b ∧ SqL K H a xs ∧ SqL K H b [] ∧ Q (.bl (!xs.isEmpty)) H
theorem op_neNil (hu : X.A.units + 64 < cLine) : OpR X (compareOp .NotEq) (rNeNil X.K) := by
  intro pins s σ H x y v u Q I rx ry h
  obtain ⟨a, b, xs, rfl, rfl, ha, hb, q⟩ := h
  cases rx
  cases ry
  obtain ⟨its, rv, hl, hz⟩ := I.list ha
  obtain ⟨its2, rv2, hl2, hz2⟩ := I.list hb
  cases rv2
  cases rv with
  | nil => exact SeqAt.RcNeAt.lists (e := fun _ => true) hl.isList hl2.isList rfl (by omega) (fun j h1 => absurd h1 (by simp)) X.prog X.w _ _ ⟨.bl _, H, I, rfl, q⟩
  | cons r1 r2 => exact SeqAt.RcNeAt.lists_lengths hl.isList hl2.isList (by simp) (by omega) X.prog X.w _ _ ⟨.bl _, H, I, rfl, q⟩
end
end DL

set_option maxHeartbeats 4000000
namespace DL
open PySem PySem.Spec PyProof.Rows L2
/-! ### sorted(d), d a dict with keys of a text and a whole number -/
section
variable {X : Cx}
def SI (k : List L2.Key) : Prop := ∃ (x : Str) (j : Int), k = [Sum.inr x, Sum.inl j]
def rSortDS : List V → Hp → VK → Prop := fun xs H Q => ∃ d kvs, xs = [V.ref d] ∧ Rd H d (.dT kvs) ∧ (∀ p ∈ kvs, SI p.1) ∧ ∀ (p : Addr) (ys : List V) (bs : List Addr), H p = none → IsKeys H kvs bs → ys.Perm (bs.map V.ref) → Q (.ref p) (upd H p (.lst ys))
def keyP : L2.Key → PyData
  | .inl i => .int i
  | .inr x => .str x
theorem paired_SI {H : Hp} : ∀ {kvs : List (List L2.Key × V)} {ks : List (List L2.Key × Addr × Value)}, Paired (fun (p : List L2.Key × V) (q : List L2.Key × Addr × Value) => p.1 = q.1 ∧ H q.2.1 = some (.tup (p.1.map kV)) ∧ RelV p.2 q.2.2) kvs ks → (∀ p ∈ kvs, SI p.1) → ∀ x ∈ ks, ∃ (y : Str) (j : Int), x.1 = [Sum.inr y, Sum.inl j] ∧ H x.2.1 = some (.tup [.str y, .int j])
  | _, _, .nil, _, x, hx => absurd hx (by simp)
  | p :: kvs, c :: ks, .cons h t, hp, x, hx => by
    rcases List.mem_cons.mp hx with rfl | hx
    · obtain ⟨i, j, e⟩ := hp p (List.mem_cons_self ..)
      obtain ⟨h1, h2, _⟩ := h
      rw [e] at h1 h2
      exact ⟨i, j, h1.symm, h2⟩
    · exact paired_SI t (fun q hq => hp q (List.mem_cons_of_mem _ hq)) x hx
def encK (x : List L2.Key × Addr × Value) : PyData := .tuple (x.1.map keyP)
theorem each_ref {α : Type} (g : α → Addr) : ∀ {out : List Value} {bs : List α}, PySem.W.EachIs (fun v x => v = Value.ref (g x)) out bs → out = bs.map fun x => Value.ref (g x)
  | _, _, .nil => rfl
  | _, _, .cons h t => by rw [h, each_ref g t]; rfl
theorem each_of {α β : Type} {R : α → β → Prop} (f : β → α) : ∀ (bs : List β), (∀ b ∈ bs, R (f b) b) → PySem.W.EachIs R (bs.map f) bs
  | [], _ => .nil
  | b :: bs, h => .cons (h b (List.mem_cons_self ..)) (each_of f bs fun x hx => h x (List.mem_cons_of_mem _ hx))
theorem cr_sortedDS (hc : X.calm = true) (hu : X.A.units + 64 < cLine) : CallR X (.builtin "sorted") rSortDS := by
  intro pins s σ H xs us Q I r h
  obtain ⟨d, kvs, rfl, hd, hpair, q⟩ := h
  obtain ⟨u, rfl, rx⟩ := r.one
  cases rx
  obtain ⟨z, hs, ks, pr, o, es, ep, ho, hx, hdt, he, hn⟩ := (show ObjOk X.prog X.w H s.heap d (.dT kvs) from hd.ok I.hok)
  have l1 : es.size = ks.length := size_of_entries he
  have l2 : kvs.length = ks.length := Paired.length pr
  refine Calls.call_function_entry PyProof.Rows.kind_sorted PyProof.Rows.plain_sorted PyProof.Rows.entry_sorted (PyProof.Rows.args_sorted1 _) ?_
  unfold Builtin.«sorted»
  refine wpAny_bind (m := checkCount "sorted" 1 1 _) (wpAny_pure ?_)
  refine wpAny_bind (PySem.W.kdu_collect (A := X.A.in1) (kdl_raw hs hx hdt) (I.ok.hd hc) ho (by omega) fun h' tk acc' kp it => ?_)
  have ea : acc'.toList = ks.map fun x => Value.ref x.2.1 := by
    have hl : acc'.toList.length = ks.length := by rw [Array.length_toList, it.1]; exact l1
    apply List.ext_getElem?
    intro j
    rw [List.getElem?_map]
    cases hj : acc'.toList[j]? with
    | none =>
      have h1 := List.getElem?_eq_none_iff.mp hj
      rw [List.getElem?_eq_none (by omega)]
      all_goals rfl
    | some v =>
      obtain ⟨en, hen, hv⟩ := it.2 j v (by rw [← Array.getElem?_toList]; exact hj)
      have qe := entry_at he j
      rw [hen] at qe
      cases hb : ks[j]? with
      | none =>
        rw [hb] at qe
        exact nomatch (show some en = none from qe)
      | some b =>
        rw [hb] at qe
        have e2 : en = entryOfKey (tupleKind (mixKind X.prog X.w)) b := Option.some.inj qe
        rw [hv, e2]
        all_goals rfl
  have hl : acc'.toList.length = ks.length := by rw [ea, List.length_map]
  have hz : acc'.toList.length ≤ sizeLine := by omega
  have I1 : Inv X pins σ H { s with heap := h', toks := tk } := I.kept kp
  have hkeys := isKeys_of pr
  have hrefs : ∀ v ∈ acc'.toList, ∃ a, v = Value.ref a := fun v hv => by
    rw [ea] at hv
    obtain ⟨x, _, rfl⟩ := List.mem_map.mp hv
    exact ⟨_, rfl⟩
  have hSI := paired_SI pr hpair
  have hrd : ∀ x ∈ ks, ∀ h2 : Heap, (∀ b o, h'.get? b = some o → h2.get? b = some o) → Reads h2 (.ref x.2.1) (encK x) [] := fun x hx h2 k2 => by
    obtain ⟨y, j, e1, ht⟩ := hSI x hx
    obtain ⟨_, its2, r2, o, ho, hc, n, hd⟩ := I1.hok _ _ ht
    obtain ⟨u1, u2, rfl, ri, rj⟩ := vals2 r2
    obtain ⟨t1, rfl⟩ := ri
    obtain ⟨t2, rfl⟩ := rj
    unfold encK
    rw [e1]
    exact .tuple (k2 _ _ ho) hc hd (.cons (.str _ _) (.cons (.int _ _) .nil))
  have hal : PySem.W.AllAlike (ks.map encK) := fun d hd d' hd' => by
    obtain ⟨x, hx, rfl⟩ := List.mem_map.mp hd
    obtain ⟨x', hx', rfl⟩ := List.mem_map.mp hd'
    obtain ⟨y, j, e1, _⟩ := hSI x hx
    obtain ⟨y', j', e2, _⟩ := hSI x' hx'
    unfold encK
    rw [e1, e2]; rfl
  have hsr : PySem.W.Sortable (ks.map encK) := .inl fun d hd => by
    obtain ⟨x, hx, rfl⟩ := List.mem_map.mp hd
    obtain ⟨y, j, e1, _⟩ := hSI x hx
    unfold encK
    rw [e1]; exact ⟨_, _, rfl⟩
  refine wpAny_bind (wpAny_newList ?_ hz)
  have hoL : (h'.push (seqObj "list" acc'.toList.toArray 0)).get? h'.objs.size = some (seqObj "list" acc'.toList.toArray 0) := Heap.get?_push_size _ rfl
  have kL : ∀ b o, h'.get? b = some o → (h'.push (seqObj "list" acc'.toList.toArray 0)).get? b = some o := fun b o e => Heap.get?_push_of_some _ e
  show wpAny _ _ _ _ _ { s with heap := h'.push (seqObj "list" acc'.toList.toArray 0), toks := tk }
  have e1 : PySem.W.EachIs (fun (v : Value) (x : List L2.Key × Addr × Value) => v = Value.ref x.2.1) acc'.toList ks := by rw [ea]; exact each_of (R := fun (v : Value) (x : List L2.Key × Addr × Value) => v = Value.ref x.2.1) (fun x => Value.ref x.2.1) ks fun _ _ => rfl
  have e2 : PySem.W.EachIs (fun (v : Value) (x : List L2.Key × Addr × Value) => ∃ as, Reads (h'.push (seqObj "list" acc'.toList.toArray 0)) v (encK x) as ∧ h'.objs.size ∉ as) acc'.toList ks := by
    have := each_of (R := fun (v : Value) (x : List L2.Key × Addr × Value) => ∃ as, Reads (h'.push (seqObj "list" acc'.toList.toArray 0)) v (encK x) as ∧ h'.objs.size ∉ as) (fun x => Value.ref x.2.1) ks fun x hx => ⟨[], hrd x hx _ kL, by simp⟩
    rw [← ea] at this; exact this
  refine wpAny_bind (wpAny_holding (PySem.W.list_sort_data (s := { s with heap := h'.push (seqObj "list" acc'.toList.toArray 0), toks := tk }) (R := fun v x => v = Value.ref x.2.1) (bs := ks) (enc := encK) hoL e1 e2 hal hsr (by omega) (fun x hx => ?_) fun out hlo hE => ?_))
  · obtain ⟨y, j, e1, _⟩ := hSI x hx
    unfold encK
    rw [e1]
    have h1 : (PyData.tuple ([Sum.inr y, Sum.inl j].map keyP)).depth ≤ 5 := Nat.le_of_ble_eq_true rfl
    have h2 : X.A.in1.units = X.A.units + 1 := rfl
    omega
  · have eo := each_ref (fun x : List L2.Key × Addr × Value => x.2.1) hE
    have hp : out.Perm acc'.toList := by rw [ea, eo]; exact (List.mergeSort_perm ks _).map _
    have h3 : ∀ u ∈ out, ∃ a, u = Value.ref a := fun u hu => hrefs u (hp.mem_iff.mp hu)
    obtain ⟨e', he'⟩ := PyProof.Rows.sortedHeap_at (vs := acc'.toList) (out := out.toArray) hoL
    have hlen : (out.map backV).length ≤ sizeLine := by rw [List.length_map, hp.length_eq]; exact hz
    refine wpAny_pure ⟨_, rfl, .ref h'.objs.size, upd H h'.objs.size (.lst (out.map backV)), I1.laid (t' := tk) (fun b u e => ?_) (Nat.le_refl _)
      (show ObjOk X.prog X.w _ _ _ (.lst (out.map backV)) from ⟨hlen, out, e', vals_back h3, he'⟩), rfl, q _ _ _ (I1.hok.fresh (Nat.le_refl _)) hkeys ?_⟩
    · have hb : b < h'.objs.size := Heap.lt_size e
      rw [PyProof.Rows.sortedHeap_old (Nat.ne_of_lt hb) (by rw [size_push']; exact Nat.lt_succ_of_lt hb)]
      exact Heap.get?_push_of_some _ e
    · have := hp.map backV
      rw [ea, List.map_map] at this
      rw [List.map_map]
      exact this
end
/-! ### {k: v}, k a tuple -/
def tDisp1 (tk tv : TE) : TE := fun σ H Q => ∀ p, H p = none → tk σ (upd H p (.dT [])) fun x H1 => tv σ H1 fun y H2 => H2 p = some (.dT []) ∧ ∃ b ks, x = .ref b ∧ H2 b = some (.tup (ks.map kV)) ∧ Q (.ref p) (upd H2 p (.dT [(ks, y)]))
theorem pe_disp1 {X : Cx} {k v : Expr} {pos : Pos} {tk tv : TE} (hu : X.A.units + 64 < cLine) (hk : PE X k tk) (hv : PE X v tv) : PE X (.Dict [some k] [v] pos) (tDisp1 tk tv) := by
  refine ⟨fun pins s σ H Q I q => ?_⟩
  have hn := I.hok.fresh (Nat.le_refl s.heap.objs.size)
  have I1 := I.laid (a := s.heap.objs.size) (o := .dT []) (h' := s.heap.push { cls := .type "dict", data := .dict #[] }) (t' := s.toks) (fun _ _ q => Heap.get?_push_of_some _ q) (Nat.le_refl _) (dt_empty s.heap I.big)
  rw [arm_eval_Dict, zip_pairTrees [some k] [v] X.env pos rfl rfl, dictDisplay_pairs _ (by simp [pairTrees]) (by simp [pairTrees])]
  refine wpAny_bind (wpAny_standAt (wpAny_bind (wpAny_subDictH (knd := tupleKind (mixKind X.prog X.w)) (Q := fun d s' => wpAny (model X.prog X.w) X.A (pure (Value.ref d)) (EP X pins σ Q) X.xe s') ?_ (by simp [pairTrees]) ?_)))
  · show X.A.units < cLine
    omega
  refine pairTrees_cons_walk (thn (hk.run pins _ σ _ _ I1 (q _ hn)) fun u s1 ⟨x, H1, I2, rx, q1⟩ => thn (hv.run pins s1 σ H1 _ I2 q1) fun w2 s2 ⟨y, H2, I3, ry, q2⟩ => pairTrees_nil_walk ?_)
  obtain ⟨e, b, ks, rfl, eb, q3⟩ := q2
  cases (show u = Value.ref b from rx)
  obtain ⟨z, hd, xs, rel, dd⟩ := dt_of I3.hok e
  cases rel
  refine ⟨[(ks, b, w2)], ⟨rfl, rfl, key_of I3.hok eb, trivial⟩, dd, fun h' tk dd' hs => wpAny_pure ?_⟩
  obtain ⟨o, es, ep, hq, h2, h3, h4, _, h5⟩ := dd'
  refine ⟨.ref s.heap.objs.size, upd H2 s.heap.objs.size (.dT [(ks, y)]), d_write (t' := tk) (ob := .dT [(ks, y)]) I3 (by rw [e]; exact True.intro) hs ⟨o, hq⟩ ⟨by show 1 ≤ sizeLine; decide, hd, [(ks, b, w2)], .cons ⟨rfl, ?_, ry⟩ .nil, o, es, ep, hq, h2, h3, h4, h5⟩, rfl, q3⟩
  rw [upd_ne (ne_of eb e (fun z => nomatch z))]
  exact eb
end DL

namespace DL
open PySem PySem.Spec PyProof.Rows L2

/-! ### the core -/
/-- constants -/
inductive CC where | non | bl (b : Bool) | int (i : Int) | str (x : Str)
def CC.d : CC → D | .non => .non | .bl b => .bl b | .int i => .int i | .str x => .str x
/-- built-in functions -/
inductive BI where
  | len | abs | min2 | max2 | int1 | tuple1 | list1 | all1 | any1 | repr1 | sum1 | min1 | max1 | sorted1 | min3 | max3 | reprE | str1 | listD
  deriving DecidableEq
/-- types that isinstance asks about -/
inductive TyB where | int | bool | str | tuple | list
  deriving DecidableEq
mutual
inductive CE where
  | var (i : Nat) | con (c : CC) | glo (j : Nat)
  | bin (op : Operator) (m : Bool) (a b : CE)
  | neg (a : CE)
  | cmp (op : CmpOp) (a b : CE)
  | chain (op op' : CmpOp) (a b c : CE)
  | and_ (a b : CE) | or_ (a b : CE) | not_ (a : CE)
  | ite (t : CB) (a b : CE)
  | tup (es : List CE) | lst (m : Bool) (es : List CE)
  | ix (a i : CE)
  | sl (m : Bool) (a : CE) (lo hi : CO)
  | call (j : Nat) (es : List CE)
  | callK (j : Nat) (es : List CE) (kes : List CE) (perm : List Nat)
  | bi (b : BI) (m : Bool) (es : List CE)
  | isi (t : TyB) (a : CE)
  | tindex (j : Nat) (e : CE)
  | dnew
  | dnew1 (es : List CE) (v : CE)
  | ktup (es : List CE)
  | lrg (m : Bool) (a b : CE)
  | popE (a : CE)
  | kix (a i : CE)
  | kget (a i x : CE)
  | dcomp (key val : CE) (tg : CT) (it : CI) (own : List Nat)
  | dlit (ks : List Str) (es : List CE)
  | rev (a : CE)
  | lz (m : Bool) (a b : CE)
  | dget2 (a : CE) (es : List CE) (x : CE)
  | lc2 (m : Bool) (elt : CE) (tg : CT) (it : CI) (tg1 : CT) (it1 : CI) (own own1 : List Nat)
  | lc (m : Bool) (elt : CE) (tg : CT) (it : CI) (ifs : List CB) (own : List Nat)
inductive CB where
  | cand (a b : CB) | cor (a b : CB) | cnot (a : CB)
  | ccmp (op : CmpOp) (a b : CE) | cchain (op op' : CmpOp) (a b c : CE)
  | cval (e : CE) | cnil (a b : CE)
inductive CT where
  | name (i : Nat) | tup (ts : List CT) | sub (a i : CE) | dsub (a : CE) (es : List CE) | ksub (a i : CE)
inductive CI where
  | seq (e : CE) | range1 (a : CE) | range2 (a b : CE) | range3 (a b c : CE) | enum (a : CE) | zip2 (a b : CE) | zip3 (a b c : CE) | keys (e : CE) | items (e : CE) | kkeys (e : CE) | kitems (e : CE)
inductive CO where
  | no | yes (e : CE)
end
mutual
inductive CS where
  | expr (e : CE) | ret (e : CE) | retN | pass | brk | cont | never
  | asg (t : CT) (e : CE) | par2 (i j : Nat) (a b : CE) | par3 (i j k : Nat) (a b c : CE)
  | setLc (i : Nat) (e : CE)
  | aug (i : Nat) (op : Operator) (e : CE)
  | append (a e : CE)
  | extend (a e : CE)
  | popS (a : CE)
  | if_ (c : CB) (a b : List CS)
  | while_ (c : CB) (b : List CS)
  | for_ (t : CT) (it : CI) (b : List CS)
  | lock (s : CS)
  | lockK (s : CS)
end

/-! ### what the operations do, by data -/
def lstOf (S : DStore) : D → Option (List D)
  | .lst xs => some xs
  | .ref n => match S[n]? with
    | some (.lst xs) => some xs
    | _ => none
  | _ => none
/-- a list lies there -/
def LAt (S : DStore) (n : Nat) : Prop := ∃ xs, S[n]? = some (.lst xs)
theorem lat {S : DStore} {n : Nat} {xs : List D} (h : S[n]? = some (.lst xs)) : LAt S n := ⟨xs, h⟩
def dctOf (S : DStore) (n : Nat) : Option (List (List L2.Key × D)) := match S[n]? with
  | some (.dct kvs) => some kvs
  | some (.dlk kvs) => some kvs
  | _ => none
def DAt (S : DStore) (n : Nat) : Prop := ∃ kvs, dctOf S n = some kvs
theorem dat {S : DStore} {n : Nat} {kvs : List (List L2.Key × D)} (h : S[n]? = some (.dct kvs)) : DAt S n := ⟨kvs, by unfold dctOf; rw [h]⟩
def dkkOf (S : DStore) (n : Nat) : Option (List (L2.Key × D)) := match S[n]? with
  | some (.dkk kvs) => some kvs
  | some (.dkl kvs) => some kvs
  | _ => none
def KAt (S : DStore) (n : Nat) : Prop := ∃ kvs, dkkOf S n = some kvs
theorem dkk_at {S : DStore} {n : Nat} {kvs : List (L2.Key × D)} (h : S[n]? = some (.dkk kvs)) : dkkOf S n = some kvs := by unfold dkkOf; rw [h]
theorem dkl_at {S : DStore} {n : Nat} {kvs : List (L2.Key × D)} (h : S[n]? = some (.dkl kvs)) : dkkOf S n = some kvs := by unfold dkkOf; rw [h]
/-- what is written out -/
def mergeD (kvs more : List (L2.Key × D)) : List (L2.Key × D) := more.foldl (fun acc kv => putD acc kv.1 kv.2) kvs
def seqOf (S : DStore) : D → Option (List D)
  | .tup xs => some xs
  | .scr xs => some xs
  | d => lstOf S d
/-- a tuple or a list -/
def tlOf (S : DStore) : D → Option (List D)
  | .tup xs => some xs
  | d => lstOf S d
def newL (m : Bool) (ds : List D) (S : DStore) (Q : QE) : Prop :=
  match m with
  | true => Q (.ref S.length) (S ++ [.lst ds])
  | false => Q (.lst ds) S
def i2 (x y : D) (k : Int → Int → Prop) : Prop := match x, y with
  | .int i, .int j => k i j
  | _, _ => False
def MulOk (i j : Int) : Prop := CMul i j ∨ CMulW i j
def DivOk (j : Int) : Prop := j ≠ 0 ∧ j.natAbs.log2 < 9000
def addD (m : Bool) (x y : D) (S : DStore) (Q : QE) : Prop := match x, y with
  | .int i, .int j => Q (.int (i + j)) S
  | .str a, .str b => a.length + b.length ≤ sizeLine ∧ Q (.str (a ++ b)) S
  | .tup a, .tup b => a.length + b.length ≤ sizeLine ∧ Q (.tup (a ++ b)) S
  | x, y => ∃ a b, lstOf S x = some a ∧ lstOf S y = some b ∧ a.length + b.length ≤ sizeLine ∧ newL m (a ++ b) S Q
def mulD (m : Bool) (x y : D) (S : DStore) (Q : QE) : Prop := match x, y with
  | .int i, .int j => MulOk i j ∧ Q (.int (i * j)) S
  | .tup a, .int k => a ≠ [] ∧ 0 ≤ k ∧ k ≤ 1000 ∧ a.length ≤ 1000 ∧ Q (.tup (List.replicate k.toNat a).flatten) S
  | x, .int k => ∃ a, lstOf S x = some a ∧ -(2 ^ 63) ≤ k ∧ k < 2 ^ 63 ∧ a.length * k.toNat ≤ sizeLine ∧ newL m (List.replicate k.toNat a).flatten S Q
  | _, _ => False
def binD (op : Operator) (m : Bool) (x y : D) (S : DStore) (Q : QE) : Prop := match op with
  | .Add => addD m x y S Q
  | .Sub => i2 x y fun i j => Q (.int (i - j)) S
  | .Mult => mulD m x y S Q
  | .FloorDiv => i2 x y fun i j => DivOk j ∧ Q (.int (i.fdiv j)) S
  | .Mod => i2 x y fun i j => j ≠ 0 ∧ Q (.int (i.fmod j)) S
  | .Pow => i2 x y fun i j => CPow i j ∧ Q (.int (i ^ j.toNat)) S
  | .LShift => i2 x y fun i j => CShl i j ∧ Q (.int (i * 2 ^ j.toNat)) S
  | .RShift => i2 x y fun i j => 0 ≤ j ∧ Q (.int (i / 2 ^ j.toNat)) S
  | _ => False
mutual
def pur : D → Option PyData
  | .non => some .none
  | .bl b => some (.bool b)
  | .int i => some (.int i)
  | .str x => some (.str x)
  | .tup xs => (purs xs).map .tuple
  | .lst xs => (purs xs).map .list
  | .ref _ => none
  | .scr _ => none
  | .key _ => none
def purs : List D → Option (List PyData)
  | [] => some []
  | x :: xs => (pur x).bind fun p => (purs xs).map (p :: ·)
end
def purS (S : DStore) : D → Option PyData
  | .ref n => ((lstOf S (.ref n)).bind purs).map .list
  | d => pur d
mutual
/-- data, empty dicts among them -/
def purE (S : DStore) : D → Option PyData
  | .non => some .none
  | .bl b => some (.bool b)
  | .int i => some (.int i)
  | .str x => some (.str x)
  | .tup xs => (pursE S xs).map .tuple
  | .lst xs => (pursE S xs).map .list
  | .ref n => match S[n]? with
    | some (.dct []) => some (.dict [])
    | some (.lst xs) => (purs xs).map .list
    | _ => none
  | .scr _ => none
  | .key _ => none
def pursE (S : DStore) : List D → Option (List PyData)
  | [] => some []
  | x :: xs => (purE S x).bind fun p => (pursE S xs).map (p :: ·)
end
def eqD (S : DStore) (x y : D) (Q : Bool → Prop) : Prop := match x, y with
  | .int i, .int j => Q (decide (i = j))
  | .bl i, .bl j => Q (decide (i = j))
  | .str i, .str j => Q (decide (i = j))
  | x, y => ∃ p q, purS S x = some p ∧ purS S y = some q ∧ SeqAt.shaped p = true ∧ SeqAt.shaped q = true ∧ Q (PyData.eqv p q)
/-- flat things: what `in` may compare -/
def flatD : D → Bool
  | .non | .bl _ | .int _ | .str _ => true
  | _ => false
def toV : D → V
  | .non => .non | .bl b => .bl b | .int i => .int i | .str x => .str x | _ => .non
def inD (S : DStore) (x y : D) (Q : Bool → Prop) : Prop := match x with
  | .key ks => ∃ n kvs, y = .ref n ∧ dctOf S n = some kvs ∧ Q (valD kvs ks).isSome
  | .tup us => (∃ n kvs ks, y = .ref n ∧ dctOf S n = some kvs ∧ keysOf us = some ks ∧ Q (valD kvs ks).isSome) ∨ (∃ p ys ps, pur (.tup us) = some p ∧ y = .tup ys ∧ purs ys = some ps ∧ SeqAt.shaped p = true ∧ SeqAt.shaped (.tuple ps) = true ∧ p.depth ≤ 10 ∧ Q (ps.any fun z => PyData.eqv z p)) ∨
      ∃ p ps, pur (.tup us) = some p ∧ purS S y = some (.list ps) ∧ SeqAt.shaped p = true ∧ SeqAt.shaped (.list ps) = true ∧ p.depth ≤ 10 ∧ Q (ps.any fun z => PyData.eqv z p)
  | x => ∃ xs, seqOf S y = some xs ∧ flatD x = true ∧ xs.all flatD = true ∧ Q (inV (toV x) (xs.map toV))
def isNon : D → Bool
  | .non => true
  | _ => false
def isD (x y : D) (Q : Bool → Prop) : Prop := match y with
  | .non => Q (isNon x)
  | .bl b => ∃ c, x = .bl c ∧ Q (decide (c = b))
  | _ => False
/-- order: of whole numbers, and of tuples and lists that are alike -/
def ordD (g : Int → Int → Bool) (f : PyData → PyData → Bool) (S : DStore) (x y : D) (Q : Bool → Prop) : Prop := match x, y with
  | .int i, .int j => Q (g i j)
  | x, y => ∃ p q, purS S x = some p ∧ purS S y = some q ∧ PySem.W.alike p q = true ∧ p ≠ .none ∧ p.depth ≤ 10 ∧ Q (f p q)
def cmpD (op : CmpOp) (S : DStore) (x y : D) (Q : Bool → Prop) : Prop := match op with
  | .Lt => ordD (fun i j => decide (i < j)) (fun p q => PySem.W.dataLt p q) S x y Q
  | .LtE => ordD (fun i j => decide (i ≤ j)) (fun p q => !PySem.W.dataLt q p) S x y Q
  | .Gt => ordD (fun i j => decide (j < i)) (fun p q => PySem.W.dataLt q p) S x y Q
  | .GtE => ordD (fun i j => decide (j ≤ i)) (fun p q => !PySem.W.dataLt p q) S x y Q
  | .Eq => eqD S x y Q
  | .NotEq => eqD S x y fun b => Q (!b)
  | .In => inD S x y Q
  | .NotIn => inD S x y fun b => Q (!b)
  | .Is => isD x y Q
  | .IsNot => isD x y fun b => Q (!b)
def truD (S : DStore) (x : D) (Q : Bool → Prop) : Prop := match x with
  | .non => Q false
  | .bl b => Q b
  | .int i => Q (i != 0)
  | .str y => y.length ≤ sizeLine ∧ Q ((y.length : Int) != 0)
  | d => ∃ xs, seqOf S d = some xs ∧ Q (!xs.isEmpty)
def ixD (S : DStore) (x y : D) (Q : D → Prop) : Prop := match y with
  | .int i => match x with
    | .str z => ∃ c, z.length ≤ sizeLine ∧ atI z.cps.toList i = some c ∧ Q (.str ⟨#[c]⟩)
    | d => ∃ xs v, seqOf S d = some xs ∧ atI xs i = some v ∧ Q v
  | .tup ys => ∃ n kvs ks v, x = .ref n ∧ dctOf S n = some kvs ∧ keysOf ys = some ks ∧ valD kvs ks = some v ∧ Q v
  | .key ks => ∃ n kvs v, x = .ref n ∧ dctOf S n = some kvs ∧ valD kvs ks = some v ∧ Q v
  | _ => False
def cutD (xs : List D) (lo hi : Option Int) : List D := (xs.drop (HT.sIx xs.length 0 lo)).take (HT.sIx xs.length xs.length hi - HT.sIx xs.length 0 lo)
def slD (m : Bool) (S : DStore) (x : D) (lo hi : Option Int) (Q : QE) : Prop := match x with
  | .tup xs => Q (.tup (cutD xs lo hi)) S
  | d => ∃ xs, lstOf S d = some xs ∧ newL m (cutD xs lo hi) S Q
structure RepOk (p : PyData) : Prop where
  sh : p.showable = true
  dp : p.depth ≤ 50
  nd : p.hasDict = false
  sz : p.shown.length ≤ sizeLine
def blOf : D → Option Bool
  | .bl b => some b
  | _ => none
def inOf : D → Option Int
  | .int b => some b
  | _ => none
/-- sorted: ints, or the keys of a dict of pairs of ints -/
def srtD (m : Bool) (d : D) (S : DStore) (Q : QE) : Prop :=
  (∃ xs ns, lstOf S d = some xs ∧ xs.mapM inOf = some ns ∧ ∀ ns' : List Int, ns'.Perm ns → ns'.Pairwise (· ≤ ·) → newL m (ns'.map D.int) S Q) ∨
  (∃ n kvs, d = .ref n ∧ dctOf S n = some kvs ∧ (∀ p ∈ kvs, ∃ i j : Int, p.1 = [Sum.inl i, Sum.inl j]) ∧ ∀ ds' : List D, ds'.Perm (kvs.map fun p => D.tup (p.1.map keyD)) → newL m ds' S Q) ∨
  (∃ n kvs, d = .ref n ∧ dctOf S n = some kvs ∧ (∀ p ∈ kvs, SI p.1) ∧ ∀ ds' : List D, ds'.Perm (kvs.map fun p => D.tup (p.1.map keyD)) → newL m ds' S Q)
def biD (b : BI) (m : Bool) (xs : List D) (S : DStore) (Q : QE) : Prop := match b, xs with
  | .len, [.str y] => y.length ≤ sizeLine ∧ Q (.int y.length) S
  | .len, [d] => ∃ xs, seqOf S d = some xs ∧ Q (.int xs.length) S
  | .abs, [.int i] => Q (.int (if i < 0 then -i else i)) S
  | .min2, [.int i, .int j] => Q (.int (if j < i then j else i)) S
  | .max2, [.int i, .int j] => Q (.int (if j > i then j else i)) S
  | .int1, [.int i] => Q (.int i) S
  | .int1, [.bl k] => Q (.int (if k then 1 else 0)) S
  | .tuple1, [.tup xs] => Q (.tup xs) S
  | .tuple1, [d] => ∃ xs, lstOf S d = some xs ∧ Q (.tup xs) S
  | .list1, [d] => ∃ xs, seqOf S d = some xs ∧ newL m xs S Q
  | .listD, [d] => ∃ n kvs, d = .ref n ∧ dctOf S n = some kvs ∧ newL m (kvs.map fun p => D.tup (p.1.map keyD)) S Q
  | .all1, [d] => ∃ xs bs, lstOf S d = some xs ∧ xs.mapM blOf = some bs ∧ Q (.bl (bs.all id)) S
  | .any1, [d] => ∃ xs bs, lstOf S d = some xs ∧ xs.mapM blOf = some bs ∧ Q (.bl (bs.any id)) S
  | .sum1, [d] => ∃ xs bs, lstOf S d = some xs ∧ xs.mapM inOf = some bs ∧ Q (.int bs.sum) S
  | .min1, [d] => ∃ xs bs m, tlOf S d = some xs ∧ xs.mapM inOf = some bs ∧ m ∈ bs ∧ (∀ y ∈ bs, m ≤ y) ∧ Q (.int m) S
  | .max1, [d] => ∃ xs bs m, tlOf S d = some xs ∧ xs.mapM inOf = some bs ∧ m ∈ bs ∧ (∀ y ∈ bs, y ≤ m) ∧ Q (.int m) S
  | .min3, [.int i, .int j, .int k] => Q (.int (if k < (if j < i then j else i) then k else if j < i then j else i)) S
  | .max3, [.int i, .int j, .int k] => Q (.int (if k > (if j > i then j else i) then k else if j > i then j else i)) S
  | .repr1, [d] => ∃ p, purS S d = some p ∧ RepOk p ∧ Q (.str p.shown) S
  | .sorted1, [d] => srtD m d S Q
  | .str1, [d] => ∃ i, d = .int i ∧ i.natAbs.log2 < 1920 ∧ Q (.str (toString i)) S
  | .reprE, [d] => ∃ p, purE S d = some p ∧ RepOkE p ∧ Q (.str p.shown) S
  | _, _ => False

def isiD : TyB → D → Bool
  | .int, .int _ => true
  | .int, .bl _ => true
  | .bool, .bl _ => true
  | .str, .str _ => true
  | .tuple, .tup _ => true
  | .tuple, .key _ => true
  | .list, .lst _ => true
  | .list, .ref _ => true
  | _, _ => false
def isiC : TyB → Cell → Bool
  | .list, .lst _ => true
  | _, _ => false
def isiP (t : TyB) (x : D) (S : DStore) (Q : QE) : Prop := match x with
  | .scr _ => False
  | .ref n => ∃ c, S[n]? = some c ∧ match c with
    | .dlk _ => False
    | .dkl _ => False
    | c => Q (.bl (isiC t c)) S
  | x => Q (.bl (isiD t x)) S
/-- what is taken apart -/
def unpD (S : DStore) (d : D) (k : List D → Prop) : Prop := match d with
  | .tup xs => k xs
  | d => ∃ xs, lstOf S d = some xs ∧ k xs
structure Fns where
  fn : Nat → List D → DStore → QE → Prop
  gl : Nat → D

structure DEnds where
  nx : DEnv → DStore → Prop
  rt : QE
  bk : DEnv → DStore → Prop := fun _ _ => False
  ct : DEnv → DStore → Prop := fun _ _ => False

/-- what is walked: its items, and what must stay -/
abbrev RI := List D → (DStore → Prop) → DStore → Prop
def itD (S : DStore) (x : D) (R : RI) : Prop := match x with
  | .tup xs => R xs (fun _ => True) S
  | .lst xs => R xs (fun _ => True) S
  | .scr xs => R xs (fun _ => True) S
  | .ref n => ∃ xs, S[n]? = some (.lst xs) ∧ R xs (fun S' => S'[n]? = some (.lst xs)) S
  | _ => False
def zipD (xs ys : List D) : List D := (xs.zip ys).map fun p => .tup [p.1, p.2]
def zipP (S : DStore) (x y : D) (R : RI) : Prop := match x, y with
  | .tup xs, .tup ys => R (zipD xs ys) (fun _ => True) S
  | x, y => ∃ xs ys, tlOf S x = some xs ∧ tlOf S y = some ys ∧ R (zipD xs ys) (fun S' => tlOf S' x = some xs ∧ tlOf S' y = some ys) S
def zip3D (xs ys zs : List D) : List D := ((xs.zip ys).zip zs).map fun p => .tup [p.1.1, p.1.2, p.2]
def zip3P (S : DStore) (x y z : D) (R : RI) : Prop := ∃ xs ys zs, tlOf S x = some xs ∧ tlOf S y = some ys ∧ tlOf S z = some zs ∧ R (zip3D xs ys zs) (fun S' => tlOf S' x = some xs ∧ tlOf S' y = some ys ∧ tlOf S' z = some zs) S
def enumD (xs : List D) : List D := xs.zipIdx.map fun p => .tup [.int p.2, p.1]
def enumP (S : DStore) (x : D) (R : RI) : Prop := match x with
  | .tup xs => R (enumD xs) (fun _ => True) S
  | x => ∃ xs, lstOf S x = some xs ∧ R (enumD xs) (fun S' => lstOf S' x = some xs) S
def range3D (lo c : Int) (n : Nat) : List D := (List.range n).map fun (k : Nat) => .int (lo + (k : Int) * c)
def rangeD (lo hi : Int) : List D := (List.range (hi - lo).toNat).map fun (k : Nat) => .int (lo + k)
def Sm (i : Int) : Prop := -(2 ^ 62) ≤ i ∧ i < 2 ^ 62
def wipeD (ρ : DEnv) : List Nat → DEnv
  | [] => ρ
  | v :: vs => (wipeD ρ vs).set v none
/-- the rule of a walk that gathers -/
def wpGather (items : List D) (G : DStore → Prop) (S : DStore) (turn : D → DStore → (Option D → DStore → Prop) → Prop) (Q : List D → DStore → Prop) : Prop :=
  ∃ W : Nat → List D → DStore → Prop, W 0 [] S ∧ (∀ i acc S, W i acc S → G S ∧ acc.length ≤ i ∧ i ≤ items.length) ∧ items.length ≤ sizeLine ∧
    (∀ i x acc S, W i acc S → items[i]? = some x → turn x S fun o S' => match o with | some y => W (i + 1) (acc ++ [y]) S' | none => W (i + 1) acc S') ∧
    ∀ acc S, W items.length acc S → Q acc S
def wpWalk (items : List D) (G : DStore → Prop) (ρ : DEnv) (S : DStore) (turn : D → DEnv → DStore → (DEnv → DStore → Prop) → Prop) (Q : DEnv → DStore → Prop) : Prop :=
  ∃ W : Nat → DEnv → DStore → Prop, W 0 ρ S ∧ (∀ i ρ S, W i ρ S → G S) ∧
    (∀ i x ρ S, W i ρ S → items[i]? = some x → turn x ρ S (W (i + 1))) ∧ ∀ ρ S, W items.length ρ S → Q ρ S
def wpLoop (ρ : DEnv) (S : DStore) (test : DEnv → DStore → (Bool → DStore → Prop) → Prop) (turn : DEnv → DStore → (DEnv → DStore → Prop) → Prop) (Q : DEnv → DStore → Prop) : Prop :=
  ∃ W : Nat → DEnv → DStore → Prop, (∃ m, W m ρ S) ∧ ∀ m ρ S, W m ρ S → test ρ S fun b S1 => if b = true then turn ρ S1 (fun ρ' S' => ∃ m', m' < m ∧ W m' ρ' S') else Q ρ S1

section
variable (G : Fns)
mutual
def wpE : CE → DEnv → DStore → QE → Prop
  | .var i, ρ, S, Q => ∃ d, ρ[i]? = some (some d) ∧ Q d S
  | .con c, _, S, Q => Q c.d S
  | .glo j, _, S, Q => Q (G.gl j) S
  | .bin op m a b, ρ, S, Q => wpE a ρ S fun x S1 => wpE b ρ S1 fun y S2 => binD op m x y S2 Q
  | .neg a, ρ, S, Q => wpE a ρ S fun x S1 => ∃ i, x = .int i ∧ Q (.int (-i)) S1
  | .cmp op a b, ρ, S, Q => wpE a ρ S fun x S1 => wpE b ρ S1 fun y S2 => cmpD op S2 x y fun r => Q (.bl r) S2
  | .chain op op' a b c, ρ, S, Q => wpE a ρ S fun x S1 => wpE b ρ S1 fun y S2 => cmpD op S2 x y fun r => if r = true then wpE c ρ S2 fun z S3 => cmpD op' S3 y z fun r' => Q (.bl r') S3 else Q (.bl false) S2
  | .and_ a b, ρ, S, Q => wpE a ρ S fun x S1 => ∃ c, x = .bl c ∧ if c = true then wpE b ρ S1 Q else Q (.bl false) S1
  | .or_ a b, ρ, S, Q => wpE a ρ S fun x S1 => ∃ c, x = .bl c ∧ if c = true then Q (.bl true) S1 else wpE b ρ S1 Q
  | .not_ a, ρ, S, Q => wpE a ρ S fun x S1 => ∃ c, x = .bl c ∧ Q (.bl (!c)) S1
  | .ite t a b, ρ, S, Q => wpB t ρ S fun r S1 => if r = true then wpE a ρ S1 Q else wpE b ρ S1 Q
  | .tup es, ρ, S, Q => wpEs es ρ S fun ds S1 => Q (.tup ds) S1
  | .lst m es, ρ, S, Q => wpEs es ρ S fun ds S1 => newL m ds S1 Q
  | .ix a i, ρ, S, Q => wpE a ρ S fun x S1 => wpE i ρ S1 fun y S2 => ixD S2 x y fun d => Q d S2
  | .sl m a lo hi, ρ, S, Q => wpE a ρ S fun x S1 => wpO lo ρ S1 fun l S2 => wpO hi ρ S2 fun h S3 => slD m S3 x l h Q
  | .call j es, ρ, S, Q => wpEs es ρ S fun ds S1 => G.fn j ds S1 Q
  | .callK j es kes perm, ρ, S, Q => wpEs es ρ S fun ds S1 => wpEs kes ρ S1 fun ks S2 => G.fn j (ds ++ perm.map fun i => ks.getD i .non) S2 Q
  | .bi b m es, ρ, S, Q => wpEs es ρ S fun ds S1 => biD b m ds S1 Q
  | .tindex i e, ρ, S, Q => ∃ ys : List Str, G.gl i = .tup (ys.map D.str) ∧ wpE e ρ S fun y S2 => ∃ z j, y = .str z ∧ ys[j]? = some z ∧ (∀ m, m < j → ys[m]? ≠ some z) ∧ Q (.int (j : Nat)) S2
  | .dnew, _, S, Q => Q (.ref S.length) (S ++ [.dct []])
  | .dnew1 es v, ρ, S, Q => wpEs es ρ (S ++ [.dct []]) fun ys S1 => wpE v ρ S1 fun z S2 => ∃ ks, keysOf ys = some ks ∧ S2[S.length]? = some (.dct []) ∧ Q (.ref S.length) (S2.set S.length (.dct [(ks, z)]))
  | .ktup es, ρ, S, Q => wpEs es ρ S fun ds S1 => ∃ ks, keysOf ds = some ks ∧ Q (.key ks) S1
  | .lrg m a b, ρ, S, Q => wpE a ρ S fun x S1 => wpE b ρ S1 fun y S2 => ∃ i j, x = .int i ∧ y = .int j ∧ Sm i ∧ Sm j ∧ (j - i).toNat ≤ 1000000 ∧ newL m (rangeD i j) S2 Q
  | .popE a, ρ, S, Q => wpE a ρ S fun x S1 => ∃ n xs y, x = .ref n ∧ S1[n]? = some (.lst (xs ++ [y])) ∧ Q y (S1.set n (.lst xs))
  | .kix a i, ρ, S, Q => wpE a ρ S fun x S1 => wpE i ρ S1 fun y S2 => ∃ n kvs k v, x = .ref n ∧ dkkOf S2 n = some kvs ∧ keyOf y = some k ∧ valD kvs k = some v ∧ Q v S2
  | .kget a i z, ρ, S, Q => wpE a ρ S fun x S1 => ∃ n, x = .ref n ∧ KAt S1 n ∧ wpE i ρ S1 fun y S2 => wpE z ρ S2 fun w S3 => ∃ kvs k, dkkOf S3 n = some kvs ∧ keyOf y = some k ∧ Q ((valD kvs k).getD w) S3
  | .dcomp key val tg it own, ρ, S, Q => wpI it ρ S fun items G S1 => ∃ W : Nat → List (L2.Key × D) → DStore → Prop, W 0 [] S1 ∧ (∀ i acc S, W i acc S → G S ∧ i ≤ items.length) ∧
      (∀ i x acc S, W i acc S → items[i]? = some x → wpG tg x (wipeD ρ own) S fun ρ2 S2 => wpE key ρ2 S2 fun y S3 => wpE val ρ2 S3 fun z S4 => ∃ k, keyOf y = some k ∧ acc.length < sizeLine ∧ W (i + 1) (putD acc k z) S4) ∧
      ∀ acc S, W items.length acc S → Q (.ref S.length) (S ++ [.dkk acc])
  | .dlit ks es, ρ, S, Q => wpEs es ρ (S ++ [.dkk []]) fun ds S1 => S1[S.length]? = some (.dkk []) ∧ Q (.ref S.length) (S1.set S.length (.dkk (mergeD [] ((ks.map Sum.inr).zip ds))))
  | .rev a, ρ, S, Q => wpE a ρ S fun x S1 => ∃ xs, x = .tup xs ∧ Q (.tup xs.reverse) S1
  | .lz m a b, ρ, S, Q => wpE a ρ S fun x S1 => wpE b ρ S1 fun y S2 => ∃ xs ys, lstOf S2 x = some xs ∧ lstOf S2 y = some ys ∧ (xs.zip ys).length ≤ sizeLine ∧ newL m (zipD xs ys) S2 Q
  | .dget2 a es x, ρ, S, Q => wpE a ρ S fun d S1 => ∃ n, d = .ref n ∧ DAt S1 n ∧ wpEs es ρ S1 fun ys S2 => wpE x ρ S2 fun z S3 => ∃ kvs ks, dctOf S3 n = some kvs ∧ keysOf ys = some ks ∧ Q ((valD kvs ks).getD z) S3
  | .isi t a, ρ, S, Q => wpE a ρ S fun x S1 => isiP t x S1 Q
  | .lc2 m elt tg it tg1 it1 own own1, ρ, S, Q => wpI it ρ S fun items G S1 => ∃ W : Nat → List D → DStore → Prop, W 0 [] S1 ∧ (∀ i acc S, W i acc S → G S ∧ i ≤ items.length) ∧
      (∀ i x acc S, W i acc S → items[i]? = some x → wpG tg x (wipeD ρ own) S fun ρ2 S2 => wpI it1 ρ2 S2 fun items1 G1 S3 => ∃ W1 : Nat → List D → DStore → Prop, W1 0 acc S3 ∧ (∀ j acc S, W1 j acc S → G1 S ∧ acc.length < sizeLine ∧ j ≤ items1.length) ∧
        (∀ j y acc S, W1 j acc S → items1[j]? = some y → wpG tg1 y (wipeD ρ2 own1) S fun ρ3 S4 => wpE elt ρ3 S4 fun z S5 => W1 (j + 1) (acc ++ [z]) S5) ∧ ∀ acc S, W1 items1.length acc S → W (i + 1) acc S) ∧
      ∀ acc S, W items.length acc S → newL m acc S Q
  | .lc m elt tg it ifs own, ρ, S, Q => wpI it ρ S fun items G S1 => wpGather items G S1
      (fun x S' N => wpG tg x (wipeD ρ own) S' fun ρ2 S2 => wpBs ifs ρ2 S2 fun r S3 => if r = true then wpE elt ρ2 S3 fun y S4 => N (some y) S4 else N none S3)
      fun acc S' => newL m acc S' Q
def wpEs : List CE → DEnv → DStore → (List D → DStore → Prop) → Prop
  | [], _, S, Q => Q [] S
  | e :: es, ρ, S, Q => wpE e ρ S fun d S1 => wpEs es ρ S1 fun ds S2 => Q (d :: ds) S2
def wpO : CO → DEnv → DStore → (Option Int → DStore → Prop) → Prop
  | .no, _, S, Q => Q none S
  | .yes e, ρ, S, Q => wpE e ρ S fun x S1 => ∃ i, x = .int i ∧ Q (some i) S1
def wpB : CB → DEnv → DStore → (Bool → DStore → Prop) → Prop
  | .cand a b, ρ, S, Q => wpB a ρ S fun r S1 => if r = true then wpB b ρ S1 Q else Q false S1
  | .cor a b, ρ, S, Q => wpB a ρ S fun r S1 => if r = true then Q true S1 else wpB b ρ S1 Q
  | .cnot a, ρ, S, Q => wpB a ρ S fun r S1 => Q (!r) S1
  | .ccmp op a b, ρ, S, Q => wpE a ρ S fun x S1 => wpE b ρ S1 fun y S2 => cmpD op S2 x y fun r => Q r S2
  | .cchain op op' a b c, ρ, S, Q => wpE a ρ S fun x S1 => wpE b ρ S1 fun y S2 => cmpD op S2 x y fun r => if r = true then wpE c ρ S2 fun z S3 => cmpD op' S3 y z fun r' => Q r' S3 else Q false S2
  | .cval e, ρ, S, Q => wpE e ρ S fun x S1 => truD S1 x fun r => Q r S1
  | .cnil a b, ρ, S, Q => wpE a ρ S fun x S1 => wpE b ρ S1 fun y S2 => y = .lst [] ∧ ∃ xs, lstOf S2 x = some xs ∧ Q (!xs.isEmpty) S2
def wpBs : List CB → DEnv → DStore → (Bool → DStore → Prop) → Prop
  | [], _, S, Q => Q true S
  | b :: bs, ρ, S, Q => wpB b ρ S fun r S1 => if r = true then wpBs bs ρ S1 Q else Q false S1
def wpG : CT → D → DEnv → DStore → (DEnv → DStore → Prop) → Prop
  | .name i, d, ρ, S, Q => Q (ρ.set i (some d)) S
  | .tup ts, d, ρ, S, Q => unpD S d fun xs => xs.length = ts.length ∧ wpGs ts xs ρ S Q
  | .sub a i, d, ρ, S, Q => wpE a ρ S fun x S1 => wpE i ρ S1 fun y S2 => ∃ n xs k j, x = .ref n ∧ y = .int k ∧ S2[n]? = some (.lst xs) ∧ ixN xs.length k = some j ∧ Q ρ (S2.set n (.lst (xs.set j d)))
  | .dsub a es, d, ρ, S, Q => wpE a ρ S fun x S1 => wpEs es ρ S1 fun ys S2 => ∃ n kvs ks, x = .ref n ∧ S2[n]? = some (.dct kvs) ∧ keysOf ys = some ks ∧ kvs.length < sizeLine ∧ Q ρ (S2.set n (.dct (putD kvs ks d)))
  | .ksub a i, d, ρ, S, Q => wpE a ρ S fun x S1 => wpE i ρ S1 fun y S2 => ∃ n kvs ks, x = .ref n ∧ y = .key ks ∧ S2[n]? = some (.dct kvs) ∧ kvs.length < sizeLine ∧ Q ρ (S2.set n (.dct (putD kvs ks d)))
def wpGs : List CT → List D → DEnv → DStore → (DEnv → DStore → Prop) → Prop
  | [], _, ρ, S, Q => Q ρ S
  | t :: ts, ds, ρ, S, Q => ∃ d r, ds = d :: r ∧ wpG t d ρ S fun ρ1 S1 => wpGs ts r ρ1 S1 Q
def wpI : CI → DEnv → DStore → RI → Prop
  | .seq e, ρ, S, R => wpE e ρ S fun x S1 => itD S1 x R
  | .range1 a, ρ, S, R => wpE a ρ S fun x S1 => ∃ j, x = .int j ∧ Sm j ∧ R (rangeD 0 j) (fun _ => True) S1
  | .range2 a b, ρ, S, R => wpE a ρ S fun x S1 => wpE b ρ S1 fun y S2 => ∃ i j, x = .int i ∧ y = .int j ∧ Sm i ∧ Sm j ∧ R (rangeD i j) (fun _ => True) S2
  | .range3 a b c, ρ, S, R => wpE a ρ S fun x S1 => wpE b ρ S1 fun y S2 => wpE c ρ S2 fun z S3 => ∃ i j k n, x = .int i ∧ y = .int j ∧ z = .int k ∧ RgC i j k n ∧ R (range3D i k n) (fun _ => True) S3
  | .enum a, ρ, S, R => wpE a ρ S fun x S1 => enumP S1 x R
  | .zip2 a b, ρ, S, R => wpE a ρ S fun x S1 => wpE b ρ S1 fun y S2 => zipP S2 x y R
  | .zip3 a b c, ρ, S, R => wpE a ρ S fun x S1 => wpE b ρ S1 fun y S2 => wpE c ρ S2 fun z S3 => zip3P S3 x y z R
  | .keys e, ρ, S, R => wpE e ρ S fun x S1 => ∃ n kvs, x = .ref n ∧ S1[n]? = some (.dlk kvs) ∧ R (kvs.map fun p => D.tup (p.1.map keyD)) (fun _ => True) S1
  | .items e, ρ, S, R => wpE e ρ S fun x S1 => ∃ n kvs, x = .ref n ∧ S1[n]? = some (.dlk kvs) ∧ R (kvs.map fun p => D.tup [D.tup (p.1.map keyD), p.2]) (fun _ => True) S1
  | .kkeys e, ρ, S, R => wpE e ρ S fun x S1 => ∃ n kvs, x = .ref n ∧ S1[n]? = some (.dkl kvs) ∧ R (kvs.map fun p => keyD p.1) (fun _ => True) S1
  | .kitems e, ρ, S, R => wpE e ρ S fun x S1 => ∃ n kvs, x = .ref n ∧ S1[n]? = some (.dkl kvs) ∧ R (kvs.map fun p => D.tup [keyD p.1, p.2]) (fun _ => True) S1
end
mutual
def wpS : CS → DEnv → DStore → DEnds → Prop
  | .expr e, ρ, S, K => wpE G e ρ S fun _ S1 => K.nx ρ S1
  | .ret e, ρ, S, K => wpE G e ρ S K.rt
  | .retN, ρ, S, K => K.rt .non S
  | .pass, ρ, S, K => K.nx ρ S
  | .brk, ρ, S, K => K.bk ρ S
  | .cont, ρ, S, K => K.ct ρ S
  | .never, _, _, _ => False
  | .asg t e, ρ, S, K => wpE G e ρ S fun d S1 => wpG G t d ρ S1 K.nx
  | .par2 i j a b, ρ, S, K => wpE G a ρ S fun x S1 => wpE G b ρ S1 fun y S2 => K.nx ((ρ.set i (some x)).set j (some y)) S2
  | .par3 i j k a b c, ρ, S, K => wpE G a ρ S fun x S1 => wpE G b ρ S1 fun y S2 => wpE G c ρ S2 fun z S3 => K.nx (((ρ.set i (some x)).set j (some y)).set k (some z)) S3
  | .setLc i e, ρ, S, K => wpE G e ρ S fun d S1 => K.nx (ρ.set i (some d)) S1
  | .aug i op e, ρ, S, K => ∃ x, ρ[i]? = some (some x) ∧ wpE G e ρ S fun y S1 => i2 x y fun a b => match op with
      | .Add => K.nx (ρ.set i (some (.int (a + b)))) S1
      | .Sub => K.nx (ρ.set i (some (.int (a - b)))) S1
      | _ => False
  | .append a e, ρ, S, K => wpE G a ρ S fun x S1 => ∃ n, x = .ref n ∧ LAt S1 n ∧ wpE G e ρ S1 fun y S2 => ∃ xs, S2[n]? = some (.lst xs) ∧ xs.length < sizeLine ∧ K.nx ρ (S2.set n (.lst (xs ++ [y])))
  | .extend a e, ρ, S, K => wpE G a ρ S fun x S1 => ∃ n, x = .ref n ∧ LAt S1 n ∧ wpE G e ρ S1 fun y S2 => ∃ xs zs, S2[n]? = some (.lst xs) ∧ lstOf S2 y = some zs ∧ xs.length + zs.length ≤ sizeLine ∧ K.nx ρ (S2.set n (.lst (xs ++ zs)))
  | .popS a, ρ, S, K => wpE G a ρ S fun x S1 => ∃ n xs y, x = .ref n ∧ S1[n]? = some (.lst (xs ++ [y])) ∧ K.nx ρ (S1.set n (.lst xs))
  | .if_ c a b, ρ, S, K => wpB G c ρ S fun r S1 => if r = true then wpSs a ρ S1 K else wpSs b ρ S1 K
  | .while_ c b, ρ, S, K => wpLoop ρ S (fun ρ S Q => wpB G c ρ S Q) (fun ρ S N => wpSs b ρ S { K with nx := N, ct := N, bk := K.nx }) K.nx
  | .for_ t it b, ρ, S, K => wpI G it ρ S fun items I S1 => wpWalk items I ρ S1 (fun x ρ' S' N => wpG G t x ρ' S' fun ρ2 S2 => wpSs b ρ2 S2 { K with nx := N, ct := N, bk := K.nx }) K.nx
  | .lock s, ρ, S, K => ∃ n kvs, S[n]? = some (.dct kvs) ∧ wpS s ρ (S.set n (.dlk kvs)) ⟨fun ρ' S' => K.nx ρ' (S'.set n (.dct kvs)), fun d S' => K.rt d (S'.set n (.dct kvs)), fun ρ' S' => K.bk ρ' (S'.set n (.dct kvs)), fun ρ' S' => K.ct ρ' (S'.set n (.dct kvs))⟩
  | .lockK s, ρ, S, K => ∃ n kvs, S[n]? = some (.dkk kvs) ∧ wpS s ρ (S.set n (.dkl kvs)) ⟨fun ρ' S' => K.nx ρ' (S'.set n (.dkk kvs)), fun d S' => K.rt d (S'.set n (.dkk kvs)), fun ρ' S' => K.bk ρ' (S'.set n (.dkk kvs)), fun ρ' S' => K.ct ρ' (S'.set n (.dkk kvs))⟩
def wpSs : List CS → DEnv → DStore → DEnds → Prop
  | [], ρ, S, K => K.nx ρ S
  | s :: ss, ρ, S, K => wpS s ρ S { K with nx := fun ρ1 S1 => wpSs ss ρ1 S1 K }
end
end
end DL

namespace DL
open PySem PySem.Spec PyProof.Rows L2

/-! ### judgements -/
abbrev TD := DEnv → DStore → QE → Prop
def Post (K : PySem.W.Frag) (η μ : List Addr) (H : Hp) (QD : QE) (v : V) (H' : Hp) : Prop := ∃ d S' μ', Grow μ H μ' H' ∧ Rp K η μ' S' H' ∧ RV K H' η μ' d v ∧ QD d S'
def Posts (K : PySem.W.Frag) (η μ : List Addr) (H : Hp) (QD : List D → DStore → Prop) (vs : List V) (H' : Hp) : Prop := ∃ ds S' μ', Grow μ H μ' H' ∧ Rp K η μ' S' H' ∧ RVs K H' η μ' ds vs ∧ QD ds S'
def PostA {α : Type} (K : PySem.W.Frag) (η μ : List Addr) (H : Hp) (QD : α → DStore → Prop) (b : α) (H' : Hp) : Prop := ∃ S' μ', Grow μ H μ' H' ∧ Rp K η μ' S' H' ∧ QD b S'
def tOf (K : PySem.W.Frag) (T : TD) : TE := fun σ H Q => ∃ η μ ρ S QD, RE K H η μ ρ σ ∧ Rp K η μ S H ∧ T ρ S QD ∧ ∀ v H', Post K η μ H QD v H' → Q v H'
def aOf (K : PySem.W.Frag) (n : Nat) (T : DEnv → DStore → (List D → DStore → Prop) → Prop) : TA := fun σ H Q => ∃ η μ ρ S QD, RE K H η μ ρ σ ∧ Rp K η μ S H ∧ T ρ S QD ∧ ∀ v H', Posts K η μ H QD v H' → v.length = n → Q v H'
def bOf {α : Type} (K : PySem.W.Frag) (T : DEnv → DStore → (α → DStore → Prop) → Prop) : St → Hp → (α → Hp → Prop) → Prop := fun σ H Q => ∃ η μ ρ S QD, RE K H η μ ρ σ ∧ Rp K η μ S H ∧ T ρ S QD ∧ ∀ v H', PostA K η μ H QD v H' → Q v H'
def DE (X : Cx) (e : Expr) (T : TD) : Prop := PE X e (tOf X.K T)
def DAs (X : Cx) (es : List Expr) (n : Nat) (T : DEnv → DStore → (List D → DStore → Prop) → Prop) : Prop := PA X es (aOf X.K n T)
def DB (X : Cx) (e : Expr) (T : DEnv → DStore → (Bool → DStore → Prop) → Prop) : Prop := PT X e (bOf X.K T)
def DO (X : Cx) (e : Option Expr) (T : DEnv → DStore → (Option Int → DStore → Prop) → Prop) : Prop := PO X e (bOf X.K T)
structure EndsOk (K : PySem.W.Frag) (η μ : List Addr) (H : Hp) (ED : DEnds) (E : Ends) : Prop where
  nx : ∀ ρ' S' σ' μ' H', Grow μ H μ' H' → Rp K η μ' S' H' → RE K H' η μ' ρ' σ' → ED.nx ρ' S' → E.nx σ' H'
  rt : ∀ d S' v μ' H', Grow μ H μ' H' → Rp K η μ' S' H' → RV K H' η μ' d v → ED.rt d S' → E.rt v H'
  bk : ∀ ρ' S' σ' μ' H', Grow μ H μ' H' → Rp K η μ' S' H' → RE K H' η μ' ρ' σ' → ED.bk ρ' S' → E.bk σ' H'
  ct : ∀ ρ' S' σ' μ' H', Grow μ H μ' H' → Rp K η μ' S' H' → RE K H' η μ' ρ' σ' → ED.ct ρ' S' → E.ct σ' H'
def sOf (K : PySem.W.Frag) (T : DEnv → DStore → DEnds → Prop) : TS := fun E σ H => ∃ η μ ρ S ED, RE K H η μ ρ σ ∧ Rp K η μ S H ∧ T ρ S ED ∧ EndsOk K η μ H ED E
def DS (X : Cx) (st : Stmt) (T : DEnv → DStore → DEnds → Prop) : Prop := PS X st (sOf X.K T)
def DSs (X : Cx) (st : List Stmt) (T : DEnv → DStore → DEnds → Prop) : Prop := PSs X st (sOf X.K T)
def JOk (K : PySem.W.Frag) (η μ : List Addr) (H : Hp) (J : It) (items : List D) (I : DStore → Prop) : Prop :=
  ∀ (i : Nat) η' μ' S' H', Ext η μ H η' μ' H' → Rp K η' μ' S' H' → I S' →
    (i < items.length → J.go i H' ∧ ∀ x H'', J.yld i H' x H'' → Grow μ' H' μ' H'' ∧ Rp K η' μ' S' H'' ∧ ∃ d, items[i]? = some d ∧ RV K H'' η' μ' d x) ∧ (items.length ≤ i → i ≤ items.length → J.stop i H')
def iOf (K : PySem.W.Frag) (T : DEnv → DStore → RI → Prop) : TI := fun σ H R => ∃ η μ ρ S RD, RE K H η μ ρ σ ∧ Rp K η μ S H ∧ T ρ S RD ∧
  ∀ J H1 items I S1 μ1, Grow μ H μ1 H1 → Rp K η μ1 S1 H1 → RD items I S1 → JOk K η μ1 H1 J items I → R J H1
def DI (X : Cx) (tg e : Expr) (T : DEnv → DStore → RI → Prop) : Prop := PI X tg e (iOf X.K T)

section
variable {X : Cx}
theorem PE.imp {e : Expr} {t t' : TE} (h : PE X e t) (i : ∀ σ H Q, t' σ H Q → t σ H Q) : PE X e t' := ⟨fun pins s σ H Q I q => h.run pins s σ H Q I (i _ _ _ q)⟩
theorem PT.imp {e : Expr} {t t' : TT} (h : PT X e t) (i : ∀ σ H Q, t' σ H Q → t σ H Q) : PT X e t' := ⟨fun pins s σ H Q I q => h.run pins s σ H Q I (i _ _ _ q)⟩
theorem PW.imp {e : Expr} {t t' : TT} (h : PW X e t) (i : ∀ σ H Q, t' σ H Q → t σ H Q) : PW X e t' := ⟨fun wh pins s σ H Q I q => h.run wh pins s σ H Q I (i _ _ _ q)⟩
theorem PTs.imp {e : List Expr} {t t' : TT} (h : PTs X e t) (i : ∀ σ H Q, t' σ H Q → t σ H Q) : PTs X e t' := ⟨fun pins s σ H Q I q => h.run pins s σ H Q I (i _ _ _ q)⟩
theorem PA.imp {e : List Expr} {t t' : TA} (h : PA X e t) (i : ∀ σ H Q, t' σ H Q → t σ H Q) : PA X e t' := ⟨fun pos pins s σ H Q I q => h.run pos pins s σ H Q I (i _ _ _ q)⟩
theorem PK.imp {e : List Keyword} {t t' : TA} (h : PK X e t) (i : ∀ σ H Q, t' σ H Q → t σ H Q) : PK X e t' := ⟨fun pos pins s σ H Q I q => h.run pos pins s σ H Q I (i _ _ _ q)⟩
theorem PO.imp {e : Option Expr} {t t' : TO} (h : PO X e t) (i : ∀ σ H Q, t' σ H Q → t σ H Q) : PO X e t' := ⟨fun pins s σ H Q I q => h.run pins s σ H Q I (i _ _ _ q)⟩
theorem PI.imp {tg e : Expr} {t t' : TI} (h : PI X tg e t) (i : ∀ σ H Q, t' σ H Q → t σ H Q) : PI X tg e t' := ⟨fun pins s σ H Q I q => h.run pins s σ H Q I (i _ _ _ q)⟩
theorem PS.imp {e : Stmt} {t t' : TS} (h : PS X e t) (i : ∀ E σ H, t' E σ H → t E σ H) : PS X e t' := ⟨fun pins s σ H E I q => h.run pins s σ H E I (i _ _ _ q)⟩
theorem PSs.imp {e : List Stmt} {t t' : TS} (h : PSs X e t) (i : ∀ E σ H, t' E σ H → t E σ H) : PSs X e t' := ⟨fun pins s σ H E I q => h.run pins s σ H E I (i _ _ _ q)⟩
theorem PI.or {tg e : Expr} {t t' : TI} (h : PI X tg e t) (h' : PI X tg e t') : PI X tg e (fun σ H R => t σ H R ∨ t' σ H R) := ⟨fun pins s σ H Q I q => q.elim (h.run pins s σ H Q I) (h'.run pins s σ H Q I)⟩
theorem PE.or {e : Expr} {t t' : TE} (h : PE X e t) (h' : PE X e t') : PE X e (fun σ H R => t σ H R ∨ t' σ H R) := ⟨fun pins s σ H Q I q => q.elim (h.run pins s σ H Q I) (h'.run pins s σ H Q I)⟩

theorem DE.mk {e : Expr} {t : TE} {T : TD} (h : PE X e t) (i : ∀ η μ ρ S σ H (Q : VK) (QD : QE), RE X.K H η μ ρ σ → Rp X.K η μ S H → T ρ S QD → (∀ v H', Post X.K η μ H QD v H' → Q v H') → t σ H Q) : DE X e T :=
  PE.imp h fun σ H Q ⟨η, μ, ρ, S, QD, hE, hR, hT, hQ⟩ => i η μ ρ S σ H Q QD hE hR hT hQ
theorem DB.mk {e : Expr} {t : TT} {T} (h : PT X e t) (i : ∀ η μ ρ S σ H (Q : Bool → Hp → Prop) (QD : Bool → DStore → Prop), RE X.K H η μ ρ σ → Rp X.K η μ S H → T ρ S QD → (∀ v H', PostA X.K η μ H QD v H' → Q v H') → t σ H Q) : DB X e T :=
  PT.imp h fun σ H Q ⟨η, μ, ρ, S, QD, hE, hR, hT, hQ⟩ => i η μ ρ S σ H Q QD hE hR hT hQ
theorem DS.mk {e : Stmt} {t : TS} {T} (h : PS X e t) (i : ∀ η μ ρ S σ H (E : Ends) (ED : DEnds), RE X.K H η μ ρ σ → Rp X.K η μ S H → T ρ S ED → EndsOk X.K η μ H ED E → t E σ H) : DS X e T :=
  PS.imp h fun E σ H ⟨η, μ, ρ, S, ED, hE, hR, hT, hQ⟩ => i η μ ρ S σ H E ED hE hR hT hQ
theorem DSs.mk {e : List Stmt} {t : TS} {T} (h : PSs X e t) (i : ∀ η μ ρ S σ H (E : Ends) (ED : DEnds), RE X.K H η μ ρ σ → Rp X.K η μ S H → T ρ S ED → EndsOk X.K η μ H ED E → t E σ H) : DSs X e T :=
  PSs.imp h fun E σ H ⟨η, μ, ρ, S, ED, hE, hR, hT, hQ⟩ => i η μ ρ S σ H E ED hE hR hT hQ
/-- one after another: hand on -/
theorem use {K : PySem.W.Frag} {η μ : List Addr} {ρ : DEnv} {S : DStore} {σ : St} {H : Hp} {T : TD} {QD : QE} {Q : VK} (hE : RE K H η μ ρ σ) (hR : Rp K η μ S H) (hT : T ρ S QD)
    (hQ : ∀ d S1 v μ1 H1, Grow μ H μ1 H1 → Rp K η μ1 S1 H1 → RE K H1 η μ1 ρ σ → RV K H1 η μ1 d v → QD d S1 → Q v H1) : tOf K T σ H Q :=
  ⟨η, μ, ρ, S, QD, hE, hR, hT, fun v H1 ⟨d, S1, μ1, g, r, rv, q⟩ => hQ d S1 v μ1 H1 g r (hE.ext g.ext) rv q⟩
theorem useA {K : PySem.W.Frag} {n : Nat} {η μ : List Addr} {ρ : DEnv} {S : DStore} {σ : St} {H : Hp} {T} {QD : List D → DStore → Prop} {Q : List V → Hp → Prop} (hE : RE K H η μ ρ σ) (hR : Rp K η μ S H) (hT : T ρ S QD)
    (hQ : ∀ ds S1 vs μ1 H1, Grow μ H μ1 H1 → Rp K η μ1 S1 H1 → RE K H1 η μ1 ρ σ → RVs K H1 η μ1 ds vs → vs.length = n → QD ds S1 → Q vs H1) : aOf K n T σ H Q :=
  ⟨η, μ, ρ, S, QD, hE, hR, hT, fun v H1 ⟨d, S1, μ1, g, r, rv, q⟩ hl => hQ d S1 v μ1 H1 g r (hE.ext g.ext) rv hl q⟩
theorem useB {α : Type} {K : PySem.W.Frag} {η μ : List Addr} {ρ : DEnv} {S : DStore} {σ : St} {H : Hp} {T} {QD : α → DStore → Prop} {Q : α → Hp → Prop} (hE : RE K H η μ ρ σ) (hR : Rp K η μ S H) (hT : T ρ S QD)
    (hQ : ∀ b S1 μ1 H1, Grow μ H μ1 H1 → Rp K η μ1 S1 H1 → RE K H1 η μ1 ρ σ → QD b S1 → Q b H1) : bOf K T σ H Q :=
  ⟨η, μ, ρ, S, QD, hE, hR, hT, fun v H1 ⟨S1, μ1, g, r, q⟩ => hQ v S1 μ1 H1 g r (hE.ext g.ext) q⟩
theorem useS {K : PySem.W.Frag} {η μ : List Addr} {ρ : DEnv} {S : DStore} {σ : St} {H : Hp} {T : DEnv → DStore → DEnds → Prop} {ED : DEnds} {E : Ends} (hE : RE K H η μ ρ σ) (hR : Rp K η μ S H) (hT : T ρ S ED) (hQ : EndsOk K η μ H ED E) : sOf K T E σ H :=
  ⟨η, μ, ρ, S, ED, hE, hR, hT, hQ⟩
theorem EndsOk.grow {K : PySem.W.Frag} {η μ μ1 : List Addr} {H H1 : Hp} {ED : DEnds} {E : Ends} (h : EndsOk K η μ H ED E) (g : Grow μ H μ1 H1) : EndsOk K η μ1 H1 ED E :=
  ⟨fun ρ S σ μ' H' g' => h.nx ρ S σ μ' H' (g.trans g'), fun ρ S σ μ' H' g' => h.rt ρ S σ μ' H' (g.trans g'), fun ρ S σ μ' H' g' => h.bk ρ S σ μ' H' (g.trans g'), fun ρ S σ μ' H' g' => h.ct ρ S σ μ' H' (g.trans g')⟩
end

/-! ### operations by values -/
section
variable {X : Cx} {K : PySem.W.Frag} {η μ : List Addr} {S : DStore} {H : Hp}
theorem lst_of (r : Rp K η μ S H) {d : D} {v : V} {xs : List D} (rv : RV K H η μ d v) (e : lstOf S d = some xs) : ∃ a vs, v = .ref a ∧ H a = some (.lst vs) ∧ RVs K H η μ xs vs := by
  cases rv with
  | lst hm hn h q => simp [lstOf] at e; subst e; exact ⟨_, _, rfl, h, q⟩
  | @ref n a h =>
    simp only [lstOf] at e
    cases q : S[n]? with
    | none => rw [q] at e; cases e
    | some c =>
      obtain ⟨b, hb, hc⟩ := r.cell n c q
      rw [h] at hb; cases hb
      rw [q] at e
      cases c with
      | lst ys =>
        simp at e; subst e
        obtain ⟨vs, e1, e2⟩ := hc
        exact ⟨a, vs, rfl, e1, e2⟩
      | dct ys => simp at e
      | dlk ys => simp at e
      | dkk ys => simp at e
      | dkl ys => simp at e
  | _ => simp [lstOf] at e
theorem seq_of (r : Rp K η μ S H) {d : D} {v : V} {xs : List D} (rv : RV K H η μ d v) (e : seqOf S d = some xs) : ∃ a vs, v = .ref a ∧ (SqL K H a vs ∨ SqT K H a vs) ∧ RVs K H η μ xs vs := by
  cases rv with
  | tup h q => simp [seqOf] at e; subst e; exact ⟨_, _, rfl, .inr h, q⟩
  | scr h q => simp [seqOf] at e; subst e; exact ⟨_, _, rfl, .inl (h.elim (fun ⟨o, z⟩ => .inl (.inr ⟨o, z⟩)) fun z => z H), q⟩
  | lst hm hn h q =>
    obtain ⟨a, vs, e1, e2, e3⟩ := lst_of r (.lst hm hn h q) e
    exact ⟨a, vs, e1, .inl (.inl (.inl e2)), e3⟩
  | ref h =>
    obtain ⟨a, vs, e1, e2, e3⟩ := lst_of r (.ref h) e
    exact ⟨a, vs, e1, .inl (.inl (.inl e2)), e3⟩
  | _ => simp [seqOf, lstOf] at e
/-- a new list, kept or to be changed -/
theorem new_lst (r : Rp K η μ S H) {m : Bool} {ds : List D} {vs : List V} {QD : QE} (rv : RVs K H η μ ds vs) (h : newL m ds S QD) (p : Addr) (hp : H p = none) : Post K η μ H QD (.ref p) (upd H p (.lst vs)) := by
  cases m with
  | true => exact ⟨_, _, _, grow_cell r hp, rp_cell r hp rv, rv_cell r, h⟩
  | false => exact ⟨_, _, _, grow_new r hp, rp_new r hp, rv_new_lst r hp rv, h⟩
theorem new_tup (r : Rp K η μ S H) {ds : List D} {vs : List V} {QD : QE} (rv : RVs K H η μ ds vs) (h : QD (.tup ds) S) (p : Addr) (hp : H p = none) : Post K η μ H QD (.ref p) (upd H p (.tup vs)) :=
  ⟨_, _, _, grow_new r hp, rp_new r hp, rv_new_tup r hp rv, h⟩
theorem stay (r : Rp K η μ S H) {d : D} {v : V} {QD : QE} (rv : RV K H η μ d v) (h : QD d S) : Post K η μ H QD v H := ⟨_, _, _, .refl, r, rv, h⟩
theorem Post.from {μ1 : List Addr} {H1 H' : Hp} {QD : QE} {v : V} (g : Grow μ H μ1 H1) (h : Post K η μ1 H1 QD v H') : Post K η μ H QD v H' :=
  let ⟨d, S', μ', g', r, rv, q⟩ := h
  ⟨d, S', μ', g.trans g', r, rv, q⟩
theorem RV.intI {v : V} {i : Int} (h : RV K H η μ (.int i) v) : v = .int i := by cases h; rfl

/-- an operator by data -/
def BinR (X : Cx) (op : Operator) (r : R2) : Prop := OpR X (binaryOp op) r ∧ ∀ {η μ S H m x y v u QD Q}, Rp X.K η μ S H → RV X.K H η μ x v → RV X.K H η μ y u → binD op m x y S QD → (∀ v H', Post X.K η μ H QD v H' → Q v H') → r v u H Q
theorem rI_of {C : Int → Int → Prop} {g : Int → Int → Int} {x y : D} {v u : V} {QD : QE} {Q : VK} (r : Rp K η μ S H) (rx : RV K H η μ x v) (ry : RV K H η μ y u) (h : i2 x y fun i j => C i j ∧ QD (.int (g i j)) S) (hQ : ∀ v H', Post K η μ H QD v H' → Q v H') :
    L2.rI C (fun i j => .int (g i j)) v u H Q := by
  cases rx <;> cases ry <;> simp only [i2] at h
  exact ⟨_, _, rfl, rfl, h.1, hQ _ _ (stay r (.int _) h.2)⟩
theorem rI0_of {g : Int → Int → Int} {x y : D} {v u : V} {QD : QE} {Q : VK} (r : Rp K η μ S H) (rx : RV K H η μ x v) (ry : RV K H η μ y u) (h : i2 x y fun i j => QD (.int (g i j)) S) (hQ : ∀ v H', Post K η μ H QD v H' → Q v H') :
    L2.rI0 (fun i j => .int (g i j)) v u H Q := by
  cases rx <;> cases ry <;> simp only [i2] at h
  exact ⟨_, _, rfl, rfl, hQ _ _ (stay r (.int _) h)⟩
theorem op_fdivA : OpR X (binaryOp .FloorDiv) (L2.rI (fun _ j => DivOk j) fun i j => .int (i.fdiv j)) := opI fun i j _ _ _ _ _ hc q => floordiv_int hc.1 q (.inl (PyProof.noPylong_of_log2 hc.2))
theorem op_mulA : OpR X (binaryOp .Mult) (L2.rI MulOk fun i j => .int (i * j)) := opI fun _ _ _ _ _ _ _ hc q => mul_int q (hc.elim (fun h => h.ok) fun h => h.ok)
theorem rvs_rep {K : PySem.W.Frag} {η μ : List Addr} {H : Hp} {ds : List D} {xs : List V} (q : RVs K H η μ ds xs) : ∀ n : Nat, RVs K H η μ (List.replicate n ds).flatten (List.replicate n xs).flatten
  | 0 => .nil
  | n + 1 => by rw [List.replicate_succ, List.replicate_succ, List.flatten_cons, List.flatten_cons]; exact q.append (rvs_rep q n)
def rCatTD (K : PySem.W.Frag) : R2 := rCatT K
theorem binR : ∀ op, ∃ r, BinR X op r
  | .Add => ⟨_, op_add.or (op_add_str.or (op_catA.or op_cat)), fun {η μ S H m x y v u QD Q} r rx ry h hQ => by
      simp only [binD, addD] at h
      split at h
      · cases rx; cases ry; exact .inl ⟨_, _, rfl, rfl, hQ _ _ (stay r (.int _) h)⟩
      · cases rx; cases ry; exact .inr (.inl ⟨_, _, rfl, rfl, h.1, hQ _ _ (stay r (.str _) h.2)⟩)
      · cases rx with
        | @tup a xs ds h1 q1 =>
          cases ry with
          | @tup b ys es h2 q2 =>
            refine .inr (.inr (.inl ⟨_, _, _, _, rfl, rfl, h1, h2, ?_, ?_, ?_, ?_⟩))
            · rw [← q1.length, ← q2.length]; exact h.1
            · intro z; subst z; cases q1; exact hQ _ _ (stay r (.tup h2 q2) h.2)
            · intro _ z; subst z; cases q2; rw [List.append_nil] at h; exact hQ _ _ (stay r (.tup h1 q1) h.2)
            · intro _ _ p hp; exact hQ _ _ (new_tup r (q1.append q2) h.2 p hp)
      · obtain ⟨a, b, e1, e2, hl, hn⟩ := h
        obtain ⟨p1, v1, rfl, h1, q1⟩ := lst_of r rx e1
        obtain ⟨p2, v2, rfl, h2, q2⟩ := lst_of r ry e2
        exact .inr (.inr (.inr ⟨_, _, _, _, rfl, rfl, h1, h2, by rw [← q1.length, ← q2.length]; exact hl, fun p hp => hQ _ _ (new_lst r (q1.append q2) hn p hp)⟩))⟩
  | .Sub => ⟨_, op_sub, fun r rx ry h hQ => rI0_of r rx ry h hQ⟩
  | .Mult => ⟨_, op_mulA.or (op_repT.or (op_rep1.or (op_rep0.or op_rep))), fun {η μ S H m x y v u QD Q} r rx ry h hQ => by
      simp only [binD, mulD] at h
      split at h
      · cases rx; cases ry; exact .inl ⟨_, _, rfl, rfl, h.1, hQ _ _ (stay r (.int _) h.2)⟩
      · cases ry
        rename_i k
        obtain ⟨h0, h1, h2, h3, h4⟩ := h
        cases rx with
        | @tup a xs _ ht q1 =>
          by_cases hk : k = 1
          · subst hk
            refine .inr (.inr (.inl ⟨_, _, rfl, rfl, ht, hQ _ _ (stay r (.tup ht q1) ?_)⟩))
            simpa using h4
          by_cases hk0 : k = 0
          · subst hk0
            refine .inr (.inr (.inr (.inl ⟨_, _, rfl, rfl, ht, fun z => ?_, fun p hp => hQ _ _ (new_tup r .nil ?_ p hp)⟩)))
            · subst z
              cases q1
              exact h0 rfl
            · simpa using h4
          refine .inr (.inl ⟨_, _, _, rfl, rfl, ht, fun z => ?_, by omega, h2, by rw [← q1.length]; exact h3, fun p hp => hQ _ _ (new_tup r (rvs_rep q1 _) h4 p hp)⟩)
          subst z
          cases q1
          exact h0 rfl
      · obtain ⟨a, e1, h1, h2, hl, hn⟩ := h
        obtain ⟨p1, v1, rfl, hp1, q1⟩ := lst_of r rx e1
        cases ry
        rename_i k _
        have rep : ∀ n : Nat, RVs X.K H η μ (List.replicate n a).flatten (List.replicate n v1).flatten := fun n => by
          induction n with
          | zero => exact .nil
          | succ n ih => rw [List.replicate_succ, List.replicate_succ, List.flatten_cons, List.flatten_cons]; exact q1.append ih
        exact .inr (.inr (.inr (.inr ⟨_, _, _, rfl, rfl, hp1, h1, h2, by rw [← q1.length]; exact hl, fun p hp => hQ _ _ (new_lst r (rep _) hn p hp)⟩)))
      · exact h.elim⟩
  | .FloorDiv => ⟨_, op_fdivA, fun r rx ry h hQ => rI_of r rx ry h hQ⟩
  | .Mod => ⟨_, op_modN, fun r rx ry h hQ => rI_of r rx ry h hQ⟩
  | .Pow => ⟨_, op_pow, fun r rx ry h hQ => rI_of r rx ry h hQ⟩
  | .LShift => ⟨_, op_shlW, fun r rx ry h hQ => rI_of r rx ry h hQ⟩
  | .RShift => ⟨_, op_shr, fun r rx ry h hQ => rI_of r rx ry h hQ⟩
  | .MatMult => ⟨fun _ _ _ _ => False, fun _ _ _ _ _ _ _ _ _ _ _ _ h => h.elim, fun _ _ _ h _ => h.elim⟩
  | .Div => ⟨fun _ _ _ _ => False, fun _ _ _ _ _ _ _ _ _ _ _ _ h => h.elim, fun _ _ _ h _ => h.elim⟩
  | .BitOr => ⟨fun _ _ _ _ => False, fun _ _ _ _ _ _ _ _ _ _ _ _ h => h.elim, fun _ _ _ h _ => h.elim⟩
  | .BitXor => ⟨fun _ _ _ _ => False, fun _ _ _ _ _ _ _ _ _ _ _ _ h => h.elim, fun _ _ _ h _ => h.elim⟩
  | .BitAnd => ⟨fun _ _ _ _ => False, fun _ _ _ _ _ _ _ _ _ _ _ _ h => h.elim, fun _ _ _ h _ => h.elim⟩
end
end DL

namespace DL
open PySem PySem.Spec PyProof.Rows L2
section
variable {X : Cx} {K : PySem.W.Frag} {η μ : List Addr} {S : DStore} {H : Hp}
mutual
theorem dp_of : ∀ {d : D} {v : V} {p : PyData}, RV K H η μ d v → pur d = some p → Dp K H v p
  | _, _, _, .non, e => by simp [pur] at e; subst e; exact .non
  | _, _, _, .bl b, e => by simp [pur] at e; subst e; exact .bl b
  | _, _, _, .int b, e => by simp [pur] at e; subst e; exact .int b
  | _, _, _, .str b, e => by simp [pur] at e; subst e; exact .str b
  | _, _, _, .tup h q, e => by
    simp only [pur, Option.map_eq_some_iff] at e
    obtain ⟨ps, e1, rfl⟩ := e
    exact .tup h (dps_of q e1)
  | _, _, _, .lst hm hn h q, e => by
    simp only [pur, Option.map_eq_some_iff] at e
    obtain ⟨ps, e1, rfl⟩ := e
    exact .lst (.inl (.inl h)) (dps_of q e1)
  | _, _, _, .scr _ _, e => by simp [pur] at e
  | _, _, _, .ref _, e => by simp [pur] at e
theorem dps_of : ∀ {ds : List D} {vs : List V} {ps : List PyData}, RVs K H η μ ds vs → purs ds = some ps → DpAll K H vs ps
  | _, _, _, .nil, e => by simp [purs] at e; subst e; exact .nil
  | _, _, _, .cons h q, e => by
    simp only [purs, Option.bind_eq_some_iff, Option.map_eq_some_iff] at e
    obtain ⟨p, e1, ps, e2, rfl⟩ := e
    exact .cons (dp_of h e1) (dps_of q e2)
end
theorem dpS_of (r : Rp K η μ S H) {d : D} {v : V} {p : PyData} (rv : RV K H η μ d v) (e : purS S d = some p) : Dp K H v p := by
  cases rv with
  | @ref n a h =>
    simp only [purS, Option.map_eq_some_iff, Option.bind_eq_some_iff] at e
    obtain ⟨ps, ⟨xs, e1, e2⟩, rfl⟩ := e
    obtain ⟨b, vs, e3, e4, q⟩ := lst_of r (.ref h) e1
    cases e3
    exact .lst (.inl (.inl e4)) (dps_of q e2)
  | non => exact dp_of (η := η) (μ := μ) .non e
  | bl b => exact dp_of (η := η) (μ := μ) (.bl b) e
  | int b => exact dp_of (η := η) (μ := μ) (.int b) e
  | str b => exact dp_of (η := η) (μ := μ) (.str b) e
  | tup h q => exact dp_of (η := η) (μ := μ) (.tup h q) e
  | lst hm hn h q => exact dp_of (.lst hm hn h q) e
  | scr h q => exact dp_of (η := η) (μ := μ) (.scr h q) e
  | key h => simp [purS, pur] at e
mutual
theorem dp_E : ∀ {v : V} {p : PyData}, Dp K H v p → DpE K H v p
  | _, _, .non => .non
  | _, _, .bl b => .bl b
  | _, _, .int b => .int b
  | _, _, .str b => .str b
  | _, _, .lst h q => .lst h (dps_E q)
  | _, _, .tup h q => .tup h (dps_E q)
theorem dps_E : ∀ {vs : List V} {ps : List PyData}, DpAll K H vs ps → DpEs K H vs ps
  | _, _, .nil => .nil
  | _, _, .cons h q => .cons (dp_E h) (dps_E q)
end
mutual
theorem dpE_of (r : Rp K η μ S H) : ∀ {d : D} {v : V} {p : PyData}, RV K H η μ d v → purE S d = some p → DpE K H v p
  | _, _, _, .non, e => by simp [purE] at e; subst e; exact .non
  | _, _, _, .bl b, e => by simp [purE] at e; subst e; exact .bl b
  | _, _, _, .int b, e => by simp [purE] at e; subst e; exact .int b
  | _, _, _, .str b, e => by simp [purE] at e; subst e; exact .str b
  | _, _, _, .tup h q, e => by
    simp only [purE, Option.map_eq_some_iff] at e
    obtain ⟨ps, e1, rfl⟩ := e
    exact .tup h (dpsE_of r q e1)
  | _, _, _, .lst hm hn h q, e => by
    simp only [purE, Option.map_eq_some_iff] at e
    obtain ⟨ps, e1, rfl⟩ := e
    exact .lst (.inl (.inl h)) (dpsE_of r q e1)
  | _, _, _, .scr _ _, e => by simp [purE] at e
  | .ref n, .ref a, p, .ref h, e => by
    unfold purE at e
    split at e
    · rename_i hc
      cases e
      obtain ⟨b, hb, vs, h1, h2⟩ := r.cell n _ hc
      rw [h] at hb; cases hb
      cases h2
      exact .dct (.inl h1)
    · rename_i xs hc
      simp only [Option.map_eq_some_iff] at e
      obtain ⟨ps, e1, rfl⟩ := e
      obtain ⟨b, vs, e3, e4, q⟩ := lst_of r (.ref h) (show lstOf S (.ref n) = some xs by simp only [lstOf, hc])
      cases e3
      exact .lst (.inl (.inl e4)) (dps_E (dps_of q e1))
    · cases e
theorem dpsE_of (r : Rp K η μ S H) : ∀ {ds : List D} {vs : List V} {ps : List PyData}, RVs K H η μ ds vs → pursE S ds = some ps → DpEs K H vs ps
  | _, _, _, .nil, e => by simp [pursE] at e; subst e; exact .nil
  | _, _, _, .cons h q, e => by
    simp only [pursE, Option.bind_eq_some_iff, Option.map_eq_some_iff] at e
    obtain ⟨p, e1, ps, e2, rfl⟩ := e
    exact .cons (dpE_of r h e1) (dpsE_of r q e2)
end
theorem app_of : ∀ {ds es : List D} {vs ws : List V}, RVs K H η μ ds vs → RVs K H η μ es ws → RVs K H η μ (ds ++ es) (vs ++ ws)
  | _, _, _, _, .nil, q => q
  | _, _, _, _, .cons a b, q => .cons a (app_of b q)
theorem rev_of : ∀ {ds : List D} {vs : List V}, RVs K H η μ ds vs → RVs K H η μ ds.reverse vs.reverse
  | _, _, .nil => .nil
  | _, _, .cons a b => by
    rw [List.reverse_cons, List.reverse_cons]
    exact app_of (rev_of b) (.cons a .nil)
theorem flat_of {d : D} {v : V} (rv : RV K H η μ d v) (f : flatD d = true) : v = toV d ∧ flatV v = true := by
  cases rv <;> first | exact ⟨rfl, rfl⟩ | simp [flatD] at f
theorem flats_of : ∀ {ds : List D} {vs : List V}, RVs K H η μ ds vs → ds.all flatD = true → vs = ds.map toV ∧ vs.all flatV = true
  | _, _, .nil, _ => ⟨rfl, rfl⟩
  | _, _, .cons h q, e => by
    simp only [List.all_cons, Bool.and_eq_true] at e
    obtain ⟨a, b⟩ := flat_of h e.1
    obtain ⟨c, d⟩ := flats_of q e.2
    refine ⟨by rw [List.map_cons, ← a, ← c], ?_⟩
    simp only [List.all_cons, b, d, Bool.and_self]
theorem ints_of : ∀ {ds : List D} {vs : List V} {is : List Int}, RVs K H η μ ds vs → ds.mapM inOf = some is → vs = is.map V.int
  | _, _, _, .nil, e => by simp at e; subst e; rfl
  | _, _, _, .cons h q, e => by
    simp only [List.mapM_cons, Option.bind_eq_bind, Option.bind_eq_some_iff] at e
    obtain ⟨i, e1, is, e2, e3⟩ := e
    cases e3
    cases h <;> simp [inOf] at e1
    subst e1
    rw [ints_of q e2]; rfl
theorem bls_of : ∀ {ds : List D} {vs : List V} {is : List Bool}, RVs K H η μ ds vs → ds.mapM blOf = some is → vs = is.map V.bl
  | _, _, _, .nil, e => by simp at e; subst e; rfl
  | _, _, _, .cons h q, e => by
    simp only [List.mapM_cons, Option.bind_eq_bind, Option.bind_eq_some_iff] at e
    obtain ⟨i, e1, is, e2, e3⟩ := e
    cases e3
    cases h <;> simp [blOf] at e1
    subst e1
    rw [bls_of q e2]; rfl

theorem strs_of : ∀ {ys : List Str} {vs : List V}, RVs K H η μ (ys.map D.str) vs → vs = ys.map V.str
  | [], _, h => by cases h; rfl
  | y :: ys, _, h => by
    cases h with
    | cons a b => cases a; rw [strs_of b]; rfl
/-! ### comparisons -/
def CmpR (X : Cx) (op : CmpOp) (r : R2) : Prop := OpR X (compareOp op) r ∧ ∀ {η μ S H x y v u QB} {Q : VK}, Rp X.K η μ S H → RV X.K H η μ x v → RV X.K H η μ y u → cmpD op S x y QB → (∀ b, QB b → Q (.bl b) H) → r v u H Q
theorem cI_of {g : Int → Int → Bool} {x y : D} {v u : V} {QB : Bool → Prop} {Q : VK} (rx : RV K H η μ x v) (ry : RV K H η μ y u) (h : i2 x y fun i j => QB (g i j)) (hQ : ∀ b, QB b → Q (.bl b) H) : L2.rI0 (fun i j => .bl (g i j)) v u H Q := by
  cases rx <;> cases ry <;> simp only [i2] at h
  exact ⟨_, _, rfl, rfl, hQ _ h⟩
theorem dct_of (r : Rp K η μ S H) {n : Nat} {v : V} {kvs : List (List L2.Key × D)} (rv : RV K H η μ (.ref n) v) (e : dctOf S n = some kvs) : ∃ a vs, v = .ref a ∧ Rd H a (.dT vs) ∧ RKs K H η μ kvs vs := by
  cases rv with
  | @ref n a h =>
    unfold dctOf at e
    split at e
    · rename_i k hc
      cases e
      obtain ⟨b, hb, vs, h1, h2⟩ := r.cell n _ hc
      rw [h] at hb; cases hb
      exact ⟨a, vs, rfl, .inl h1, h2⟩
    · rename_i k hc
      cases e
      obtain ⟨b, hb, ob, vs, h1, h2⟩ := r.cell n _ hc
      rw [h] at hb; cases hb
      exact ⟨a, vs, rfl, .inr ⟨ob, h1⟩, h2⟩
    · cases e
theorem dkk_of (r : Rp K η μ S H) {n : Nat} {v : V} {kvs : List (L2.Key × D)} (rv : RV K H η μ (.ref n) v) (e : dkkOf S n = some kvs) : ∃ a vs, v = .ref a ∧ Rd H a (.dK vs) ∧ RKs K H η μ kvs vs := by
  cases rv with
  | @ref n a h =>
    unfold dkkOf at e
    split at e
    · rename_i k hc
      cases e
      obtain ⟨b, hb, vs, h1, h2⟩ := r.cell n _ hc
      rw [h] at hb; cases hb
      exact ⟨a, vs, rfl, .inl h1, h2⟩
    · rename_i k hc
      cases e
      obtain ⟨b, hb, ob, vs, h1, h2⟩ := r.cell n _ hc
      rw [h] at hb; cases hb
      exact ⟨a, vs, rfl, .inr ⟨ob, h1⟩, h2⟩
    · cases e
theorem relO_some {o : Option V} {α : Type} {w : Option α} {f : α → Value} (h : RelO o (w.map f)) : w.isSome = o.isSome := by
  cases o <;> cases w <;> first | rfl | exact h.elim | cases h
def rOrdD (K : PySem.W.Frag) (f : PyData → PyData → Bool) : R2 := fun x y H Q => ∃ p q, Dp K H x p ∧ Dp K H y q ∧ PySem.W.alike p q = true ∧ p ≠ .none ∧ p.depth ≤ 10 ∧ Q (.bl (f p q)) H
theorem op_ltD (hu : X.A.units + 64 < cLine) : OpR X (compareOp .Lt) (rOrdD X.K fun p q => PySem.W.dataLt p q) := by
  intro pins s σ H x y v u Q I rx ry h
  obtain ⟨p, q, hp, hq, al, hn, hd, h⟩ := h
  obtain ⟨as, r1⟩ := Dp.reads I p x v hp rx
  obtain ⟨bs, r2⟩ := Dp.reads I q y u hq ry
  exact PySem.W.lt_data r1 r2 al hn (by omega) ⟨.bl _, H, I, rfl, h⟩
theorem op_leD (hu : X.A.units + 64 < cLine) : OpR X (compareOp .LtE) (rOrdD X.K fun p q => !PySem.W.dataLt q p) := by
  intro pins s σ H x y v u Q I rx ry h
  obtain ⟨p, q, hp, hq, al, hn, hd, h⟩ := h
  obtain ⟨as, r1⟩ := Dp.reads I p x v hp rx
  obtain ⟨bs, r2⟩ := Dp.reads I q y u hq ry
  exact PySem.W.le_data r1 r2 al hn (by omega) ⟨.bl _, H, I, rfl, h⟩
theorem op_gtD (hu : X.A.units + 64 < cLine) : OpR X (compareOp .Gt) (rOrdD X.K fun p q => PySem.W.dataLt q p) := by
  intro pins s σ H x y v u Q I rx ry h
  obtain ⟨p, q, hp, hq, al, hn, hd, h⟩ := h
  obtain ⟨as, r1⟩ := Dp.reads I p x v hp rx
  obtain ⟨bs, r2⟩ := Dp.reads I q y u hq ry
  exact PySem.W.gt_data r1 r2 al hn (by omega) ⟨.bl _, H, I, rfl, h⟩
theorem op_geD (hu : X.A.units + 64 < cLine) : OpR X (compareOp .GtE) (rOrdD X.K fun p q => !PySem.W.dataLt p q) := by
  intro pins s σ H x y v u Q I rx ry h
  obtain ⟨p, q, hp, hq, al, hn, hd, h⟩ := h
  obtain ⟨as, r1⟩ := Dp.reads I p x v hp rx
  obtain ⟨bs, r2⟩ := Dp.reads I q y u hq ry
  exact PySem.W.ge_data r1 r2 al hn (by omega) ⟨.bl _, H, I, rfl, h⟩
theorem ord_of (r : Rp K η μ S H) {g : Int → Int → Bool} {f : PyData → PyData → Bool} {x y : D} {v u : V} {QB : Bool → Prop} {Q : VK} (rx : RV K H η μ x v) (ry : RV K H η μ y u) (h : ordD g f S x y QB) (hQ : ∀ b, QB b → Q (.bl b) H) : L2.rI0 (fun i j => .bl (g i j)) v u H Q ∨ rOrdD K f v u H Q := by
  unfold ordD at h
  split at h
  · cases rx; cases ry; exact .inl ⟨_, _, rfl, rfl, hQ _ h⟩
  · obtain ⟨p, q, e1, e2, al, hn, hd, h⟩ := h
    exact .inr ⟨p, q, dpS_of r rx e1, dpS_of r ry e2, al, hn, hd, hQ _ h⟩
/-- in of a dict whose keys are tuples -/
def rInDT (K : PySem.W.Frag) (neg : Bool) : R2 := fun x y H Q => ∃ (a b : Addr) (kvs : List (List L2.Key × V)) (ks : List L2.Key), x = .ref b ∧ y = .ref a ∧ Rd H a (.dT kvs) ∧ SqT K H b (ks.map kV) ∧ Q (.bl (if neg then !(valV kvs ks).isSome else (valV kvs ks).isSome)) H
theorem op_inDT (hu : X.A.units + 64 < cLine) : OpR X (compareOp .In) (rInDT X.K false) := by
  intro pins s σ H x y v u Q I rx ry h
  obtain ⟨a, b, kvs, ks, rfl, rfl, e, hb, q⟩ := h
  cases rx; cases ry
  obtain ⟨z, hd, xs, rel, dd⟩ := dt_rd I.hok e
  have hv := rel.val ks
  have e2 : (atKey xs ks).isSome = (valV kvs ks).isSome := relO_some hv
  refine wpAny_in_heap (tupleKind_room_in1 (by omega)) (key_ofS I hb) hd dd ⟨.bl _, H, I.tok _, rfl, ?_⟩
  rw [e2]; exact q
theorem op_notInDT (hu : X.A.units + 64 < cLine) : OpR X (compareOp .NotIn) (rInDT X.K true) := by
  intro pins s σ H x y v u Q I rx ry h
  obtain ⟨a, b, kvs, ks, rfl, rfl, e, hb, q⟩ := h
  cases rx; cases ry
  obtain ⟨z, hd, xs, rel, dd⟩ := dt_rd I.hok e
  have hv := rel.val ks
  have e2 : (atKey xs ks).isSome = (valV kvs ks).isSome := relO_some hv
  refine wpAny_notIn_heap (tupleKind_room_in1 (by omega)) (key_ofS I hb) hd dd ⟨.bl _, H, I.tok _, rfl, ?_⟩
  rw [e2]; exact q
theorem val_some {kvs : List (List L2.Key × D)} {vs : List (List L2.Key × V)} (q : RKs K H η μ kvs vs) (ks : List L2.Key) : (valD kvs ks).isSome = (valV vs ks).isSome := by
  have h := q.val ks
  cases e : valD kvs ks with
  | none => rw [h.2 e]; rfl
  | some d => obtain ⟨v, ev, _⟩ := h.1 d e; rw [ev]; rfl
theorem in_dct (r : Rp K η μ S H) {neg : Bool} {x y : D} {v u : V} {QB : Bool → Prop} {Q : VK} (ry : RV K H η μ y u) {n : Nat} {kvs : List (List L2.Key × D)} {ks : List L2.Key} {b : Addr} (hv : v = .ref b) (hb : SqT K H b (ks.map kV)) (e : y = .ref n) (ed : dctOf S n = some kvs) (q : (fun b => QB (if neg then !b else b)) (valD kvs ks).isSome) (hQ : ∀ b, QB b → Q (.bl b) H) : rInDT K neg v u H Q := by
  subst e hv
  obtain ⟨a, vs, rfl, ha, qk⟩ := dct_of r ry ed
  exact ⟨a, b, vs, ks, rfl, rfl, ha, hb, hQ _ (by rw [← val_some qk]; exact q)⟩
theorem dec_int (i j : Int) : decide (V.int i = V.int j) = decide (i = j) := by by_cases h : i = j <;> simp [h]
theorem dec_bl (i j : Bool) : decide (V.bl i = V.bl j) = decide (i = j) := by by_cases h : i = j <;> simp [h]
theorem dec_str (i j : Str) : decide (V.str i = V.str j) = decide (i = j) := by by_cases h : i = j <;> simp [h]
theorem eq_of_data (r : Rp K η μ S H) {x y : D} {v u : V} {QB : Bool → Prop} {Q : VK} (rx : RV K H η μ x v) (ry : RV K H η μ y u) (h : eqD S x y QB) (hQ : ∀ b, QB b → Q (.bl b) H) :
    rEq v u H Q ∨ rEqD K v u H Q := by
  simp only [eqD] at h
  split at h
  · cases rx; cases ry; exact .inl ⟨rfl, hQ _ (by rw [dec_int]; exact h)⟩
  · cases rx; cases ry; exact .inl ⟨rfl, hQ _ (by rw [dec_bl]; exact h)⟩
  · cases rx; cases ry; exact .inl ⟨rfl, hQ _ (by rw [dec_str]; exact h)⟩
  · obtain ⟨p, q, e1, e2, s1, s2, h⟩ := h
    exact .inr ⟨p, q, dpS_of r rx e1, dpS_of r ry e2, s1, s2, hQ _ h⟩
theorem ne_of_data (r : Rp K η μ S H) {x y : D} {v u : V} {QB : Bool → Prop} {Q : VK} (rx : RV K H η μ x v) (ry : RV K H η μ y u) (h : eqD S x y fun b => QB (!b)) (hQ : ∀ b, QB b → Q (.bl b) H) :
    rNe v u H Q ∨ rNeD K v u H Q := by
  simp only [eqD] at h
  split at h
  · cases rx; cases ry; exact .inl ⟨rfl, hQ _ (by rw [dec_int]; exact h)⟩
  · cases rx; cases ry; exact .inl ⟨rfl, hQ _ (by rw [dec_bl]; exact h)⟩
  · cases rx; cases ry; exact .inl ⟨rfl, hQ _ (by rw [dec_str]; exact h)⟩
  · obtain ⟨p, q, e1, e2, s1, s2, h⟩ := h
    exact .inr ⟨p, q, dpS_of r rx e1, dpS_of r ry e2, s1, s2, hQ _ h⟩
theorem in_of (r : Rp K η μ S H) {neg : Bool} {x y : D} {v u : V} {QB : Bool → Prop} {Q : VK} (rx : RV K H η μ x v) (ry : RV K H η μ y u) (h : ∃ xs, seqOf S y = some xs ∧ flatD x = true ∧ xs.all flatD = true ∧ (fun b => QB (if neg then !b else b)) (inV (toV x) (xs.map toV))) (hQ : ∀ b, QB b → Q (.bl b) H) : rIn K neg v u H Q := by
  obtain ⟨xs, e, f, fs, q⟩ := h
  obtain ⟨a, vs, rfl, hq, qs⟩ := seq_of r ry e
  obtain ⟨e1, f1⟩ := flat_of rx f
  obtain ⟨e2, f2⟩ := flats_of qs fs
  exact ⟨a, vs, rfl, hq, f1, f2, hQ _ (by rw [e1, e2]; exact q)⟩
theorem in_of2 (r : Rp K η μ S H) {x y : D} {v u : V} {QB : Bool → Prop} {Q : VK} (rx : RV K H η μ x v) (ry : RV K H η μ y u) (h : inD S x y QB) (hQ : ∀ b, QB b → Q (.bl b) H) : rIn K false v u H Q ∨ rInTup K v u H Q ∨ rInLst K v u H Q ∨ rInDT K false v u H Q := by
  unfold inD at h
  split at h
  · obtain ⟨n, kvs, e, ed, q⟩ := h
    cases rx with
    | key hk => exact .inr (.inr (.inr (in_dct (x := y) (neg := false) r ry rfl (.inl (.inl hk)) e ed q hQ)))
  · rcases h with ⟨n, kvs, ks, e, ed, ek, q⟩ | ⟨p, ys, ps, e1, rfl, e2, s1, s2, d1, q⟩ | ⟨p, ps, e1, e2, s1, s2, d1, q⟩
    · cases rx with
      | tup hb qb =>
        have eb := keysOf_rv qb ek
        subst eb
        exact .inr (.inr (.inr (in_dct (x := y) (neg := false) r ry rfl hb e ed q hQ)))
    · exact .inr (.inl ⟨p, ps, dp_of rx e1, dp_of ry (by simp only [pur, e2]; rfl), s1, s2, d1, hQ _ q⟩)
    · exact .inr (.inr (.inl ⟨p, ps, dp_of rx e1, dpS_of r ry e2, s1, s2, d1, hQ _ q⟩))
  · exact .inl (in_of (neg := false) r rx ry h hQ)
theorem in_of3 (r : Rp K η μ S H) {x y : D} {v u : V} {QB : Bool → Prop} {Q : VK} (rx : RV K H η μ x v) (ry : RV K H η μ y u) (h : inD S x y fun b => QB (!b)) (hQ : ∀ b, QB b → Q (.bl b) H) : rIn K true v u H Q ∨ rNotInTup K v u H Q ∨ rNotInLst K v u H Q ∨ rInDT K true v u H Q := by
  unfold inD at h
  split at h
  · obtain ⟨n, kvs, e, ed, q⟩ := h
    cases rx with
    | key hk => exact .inr (.inr (.inr (in_dct (x := y) (neg := true) r ry rfl (.inl (.inl hk)) e ed q hQ)))
  · rcases h with ⟨n, kvs, ks, e, ed, ek, q⟩ | ⟨p, ys, ps, e1, rfl, e2, s1, s2, d1, q⟩ | ⟨p, ps, e1, e2, s1, s2, d1, q⟩
    · cases rx with
      | tup hb qb =>
        have eb := keysOf_rv qb ek
        subst eb
        exact .inr (.inr (.inr (in_dct (x := y) (neg := true) r ry rfl hb e ed q hQ)))
    · exact .inr (.inl ⟨p, ps, dp_of rx e1, dp_of ry (by simp only [pur, e2]; rfl), s1, s2, d1, hQ _ q⟩)
    · exact .inr (.inr (.inl ⟨p, ps, dp_of rx e1, dpS_of r ry e2, s1, s2, d1, hQ _ q⟩))
  · exact .inl (in_of (neg := true) r rx ry h hQ)
theorem non_iff {x : D} {v : V} (rx : RV K H η μ x v) : decide (v = .non) = isNon x := by
  cases rx <;> simp [isNon]
theorem cmpR (hu : X.A.units + 64 < cLine) : ∀ op, ∃ r, CmpR X op r
  | .Lt => ⟨_, op_lt.or (op_ltD hu), fun r rx ry h hQ => ord_of r rx ry h hQ⟩
  | .LtE => ⟨_, op_le.or (op_leD hu), fun r rx ry h hQ => ord_of r rx ry h hQ⟩
  | .Gt => ⟨_, op_gt.or (op_gtD hu), fun r rx ry h hQ => ord_of r rx ry h hQ⟩
  | .GtE => ⟨_, op_ge.or (op_geD hu), fun r rx ry h hQ => ord_of r rx ry h hQ⟩
  | .Eq => ⟨_, op_eq.or (op_eqD hu), fun r rx ry h hQ => eq_of_data r rx ry h hQ⟩
  | .NotEq => ⟨_, op_ne.or (op_neD hu), fun r rx ry h hQ => ne_of_data r rx ry h hQ⟩
  | .In => ⟨_, op_in_seq.or ((op_inTup hu).or ((op_inLst hu).or (op_inDT hu))), fun r rx ry h hQ => in_of2 r rx ry h hQ⟩
  | .NotIn => ⟨_, op_notIn_seq.or ((op_notInTup hu).or ((op_notInLst hu).or (op_notInDT hu))), fun r rx ry h hQ => in_of3 r rx ry h hQ⟩
  | .Is => ⟨_, op_isN.or op_isBl, fun {η μ S H x y v u QB Q} r rx ry h hQ => by
      simp only [cmpD, isD] at h
      split at h
      · cases ry; exact .inl ⟨rfl, hQ _ (by rw [non_iff rx]; exact h)⟩
      · obtain ⟨c, rfl, h⟩ := h
        cases ry; cases rx; exact .inr ⟨_, _, rfl, rfl, hQ _ h⟩
      · exact h.elim⟩
  | .IsNot => ⟨_, op_notN.or op_notBl, fun {η μ S H x y v u QB Q} r rx ry h hQ => by
      simp only [cmpD, isD] at h
      split at h
      · cases ry; exact .inl ⟨rfl, hQ _ (by rw [non_iff rx]; exact h)⟩
      · obtain ⟨c, rfl, h⟩ := h
        cases ry; cases rx; exact .inr ⟨_, _, rfl, rfl, hQ _ h⟩
      · exact h.elim⟩

/-! ### truth, items, slices -/
theorem tru_of (r : Rp K η μ S H) {x : D} {v : V} {QB : Bool → Prop} (rx : RV K H η μ x v) (h : truD S x QB) : ∃ k, TruV K v H k ∧ QB k := by
  simp only [truD] at h
  split at h
  · cases rx; exact ⟨false, rfl, h⟩
  · cases rx; exact ⟨_, rfl, h⟩
  · cases rx; exact ⟨_, rfl, h⟩
  · cases rx; exact ⟨_, ⟨h.1, rfl⟩, h.2⟩
  · obtain ⟨xs, e, q⟩ := h
    obtain ⟨a, vs, rfl, hq, qs⟩ := seq_of r rx e
    have el : xs.isEmpty = vs.isEmpty := by
      cases qs <;> rfl
    rw [el] at q
    rcases hq with hq | hq
    · exact ⟨_, .inl ⟨vs, hq, rfl⟩, q⟩
    · exact ⟨_, .inr (.inl ⟨vs, hq, rfl⟩), q⟩
theorem atI_of {xs : List D} {vs : List V} {i : Int} {d : D} (q : RVs K H η μ xs vs) (e : atI xs i = some d) : ∃ v, atI vs i = some v ∧ RV K H η μ d v := by
  unfold atI at e ⊢
  rw [← q.length]
  cases h : ixN xs.length i with
  | none => rw [h] at e; cases e
  | some j =>
    rw [h] at e
    exact q.get e
theorem ix_of (r : Rp K η μ S H) {x y : D} {v u : V} {QD : D → Prop} {Q : VK} (rx : RV K H η μ x v) (ry : RV K H η μ y u) (h : ixD S x y QD) (hQ : ∀ d v, RV K H η μ d v → QD d → Q v H) : rIx K v u H Q ∨ rIxD K v u H Q := by
  simp only [ixD] at h
  split at h
  · split at h
    · obtain ⟨c, h1, h2, h3⟩ := h
      cases rx; cases ry
      exact .inl (.inr (.inr ⟨_, _, c, rfl, rfl, h1, h2, hQ _ _ (.str _) h3⟩))
    · obtain ⟨xs, d, h1, h2, h3⟩ := h
      cases ry
      obtain ⟨a, vs, rfl, hq, qs⟩ := seq_of r rx h1
      obtain ⟨w, e, rw'⟩ := atI_of qs h2
      rcases hq with hq | hq
      · exact .inl (.inl ⟨_, _, _, w, rfl, rfl, hq, e, hQ _ _ rw' h3⟩)
      · exact .inl (.inr (.inl ⟨_, _, _, w, rfl, rfl, hq, e, hQ _ _ rw' h3⟩))
  · obtain ⟨n, kvs, ks, d, rfl, h1, h2, h3, h4⟩ := h
    obtain ⟨a, vs, rfl, ha, qk⟩ := dct_of r rx h1
    cases ry with
    | tup hb qb =>
      have eb := keysOf_rv qb h2
      subst eb
      obtain ⟨w, hw, rw'⟩ := (qk.val ks).1 d h3
      exact .inr ⟨a, _, vs, ks, w, rfl, rfl, ha, hb, hw, hQ _ _ rw' h4⟩
  · obtain ⟨n, kvs, d, rfl, h1, h3, h4⟩ := h
    rename_i ks
    obtain ⟨a, vs, rfl, ha, qk⟩ := dct_of r rx h1
    cases ry with
    | key hb =>
      obtain ⟨w, hw, rw'⟩ := (qk.val ks).1 d h3
      exact .inr ⟨a, _, vs, ks, w, rfl, rfl, ha, .inl (.inl hb), hw, hQ _ _ rw' h4⟩
  · exact h.elim
theorem cut_of {xs : List D} {vs : List V} (q : RVs K H η μ xs vs) (lo hi : Option Int) : RVs K H η μ (cutD xs lo hi) (cutV vs lo hi) := by
  unfold cutD cutV
  rw [← q.length]
  exact (q.drop _).take _
end
end DL

namespace DL
open PySem PySem.Spec PyProof.Rows L2
/-! ### defs, where no text of a thing is being made around (so repr is plain) -/
/-- the def at f keeps sp, called from where no repr is under way -/
structure FnG (P : Program) (w : World) (K : PySem.W.Frag) (mg : Str → Option Value) (base : Heap) (k : Nat) (f : Addr) (fd : FuncData) (ps : List Str) (sp : List V → Hp → VK → Prop) : Prop where
  len : ∀ vs H Q, sp vs H Q → vs.length = ps.length
  run : ∀ (A : Around) (outer : List Env) (s : Shared) (H : Hp) (args : Args) (us : List Value) (vs : List V) (Q : VK), A.guards = some [] → Room k A → Env0 P w K mg base A outer s H →
    BindsTo s fd args (ps.zip us) → Vals vs us → sp vs H Q → codeAny (model P w) A (.call (.ref f) args) (CR L2.CX0 outer P w H s Q L2.E0) s
section
variable {P : Program} {w : World} {K : PySem.W.Frag} {mg : Str → Option Value} {base : Heap} {k j : Nat} {f : Addr} {fd : FuncData} {ps : List Str} {sp sp' : List V → Hp → VK → Prop}
theorem FnG.mono (F : FnG P w K mg base j f fd ps sp) (h : j ≤ k) : FnG P w K mg base k f fd ps sp :=
  ⟨F.len, fun A o s H args us vs Q hg hr => F.run A o s H args us vs Q hg (hr.mono h)⟩
theorem FnG.imp (F : FnG P w K mg base k f fd ps sp) (h : ∀ vs H Q, sp' vs H Q → sp vs H Q) : FnG P w K mg base k f fd ps sp' :=
  ⟨fun vs H Q q => F.len vs H Q (h _ _ _ q), fun A o s H args us vs Q hg hr he hb hv hs => F.run A o s H args us vs Q hg hr he hb hv (h _ _ _ hs)⟩
end
/-- the context of a def's body -/
abbrev cxG (P : Program) (w : World) (K : PySem.W.Frag) (mg : Str → Option Value) (base : Heap) (N : List Str) (qual : Str) (st : Stmt) (f : Addr) (cdv : Value) (A : Around) (outer : List Env) (s : Shared) (H : Hp) : Cx :=
  (cxOf L2.CX0 P w K mg base N qual (L2.defScope st) f cdv A outer s H L2.E0).nox
theorem fnG_of {P : Program} {w : World} {K : PySem.W.Frag} {mg : Str → Option Value} {base : Heap} {x qual : Str} {st : Stmt} {f : Addr} {fd : FuncData} {N ps : List Str} {k : Nat} {sp : List V → Hp → VK → Prop}
    (F : L2.Fun K x qual st f fd) (Sc : FnScope N ps (L2.defScope st)) (len : ∀ vs H Q, sp vs H Q → vs.length = ps.length)
    (body : ∀ (cdv : Value) (A : Around) (outer : List Env) (s : Shared) (H : Hp) (vs : List V) (Q : VK), A.guards = some [] → Room k (A.deeper (envOfC qual (L2.defScope st) s.heap.objs.size f cdv)) → sp vs H Q →
      ∃ t, PSs (cxG P w K mg base N qual st f cdv A outer s H) (L2.defBody st) t ∧ t { nx := fun _ H' => Q .non H', rt := Q } (start N vs) H) :
    FnG P w K mg base (k + 1) f fd ps sp := by
  obtain ⟨oc, od, kV, doc, pm, an, cdv, ct, osl, efd, lk, hcd⟩ := F.ex
  subst efd
  constructor
  · exact len
  intro A outer s H args us vs Q hg room e0 hbt rvs hq
  have hlen := len vs H Q hq
  have keepB := fun b o e => (e0.bs b o e).1
  have kin : K.In s.heap := e0.mod.kin.keeps keepB
  have noLim : s.heap.NoLimit := e0.mod.nolimit.keeps keepB
  refine codeAny_call_function room.depth (kin _ _ lk) rfl Sc.co Sc.gen rfl (PySem.W.codeRec_of kin hcd) (hbt _ _ _ _ ?_)
  refine wpAny_newFunctionEnv_cells Sc.kind (fun y hy => ?kinds) fun env he s1 new => ?rest
  case kinds =>
    obtain ⟨nm, val⟩ := y
    exact (Sc.par nm (List.of_mem_zip hy).1).imp id fun q => ⟨q, PySem.W.cellsFrom_some _ _ _ (.inl q)⟩
  case rest =>
    subst he
    obtain ⟨t, der, ans⟩ := body cdv A outer s H vs Q hg (room.deeper _) hq
    have start0 := inv_start (CX := L2.CX0) (E := L2.E0) Sc room.hd e0 hlen rvs new
    refine ⟨noLim.keeps new.toInCall.keep, codeAny_func ?_⟩
    refine wpAny_mono ((PSs.nox der).run [] s1 (start N vs) H _ start0 ans) (fun fl s' out => ?_) fun e s' out => out
    match fl, out with
    | .ret u, ⟨v, σ', H', J, rv, q⟩ => exact ⟨v, H', J.os, J.bare, J.base, J.hok, rv, q⟩
    | .next, ⟨σ', H', J, q⟩ => exact ⟨.non, H', J.os, J.bare, J.base, J.hok, rfl, q⟩
    | .brk, ⟨_, _, _, q⟩ => exact q.elim
    | .cont, ⟨_, _, _, q⟩ => exact q.elim

section
variable {X : Cx} {k : Nat} {f : Addr} {fd : FuncData} {ps ks : List Str} {sp : List V → Hp → VK → Prop} {x : Str} {p pos : Pos} {e : Expr} {es : List Expr} {kws : List Keyword} {t tk : TA} {g : List Value → List Value → List Value} {gV : List V → List V → List V}
theorem runG {pins : List (Addr × Obj)} {σ : L2.St} {H : Hp} {s : Shared} {Q : VK} {us ws : List Value} {vs zs : List V} (F : FnG X.prog X.w X.K X.mg X.base k f fd ps sp) (hr : Room k X.A) (hG : X.A.guards = some []) (hb : KBinds X.K fd ps ks g gV)
    (I : Inv X pins σ H s) (r : Vals vs us) (rz : Vals zs ws) (h : sp (gV vs zs) H Q) : wpAny (model X.prog X.w) X.A (call (.ref f) us (ks.zip ws)) (EP X pins σ Q) X.xe s := by
  have both := hb.rel r rz
  refine wpAny_call (codeAny_mono (F.run X.A X.stack s H ⟨us, ks.zip ws⟩ _ _ Q hG hr I.env0 (hb.to s us ws I.kIn ?_) both h) fun res s' hq => ?_)
  · exact both.length.symm.trans (F.len _ _ _ h)
  · match res, hq with
    | .ok (.ret u), hq => exact I.after hq
    | .ok .next, hq => exact hq.elim
    | .ok .brk, hq => exact hq.elim
    | .ok .cont, hq => exact hq.elim
    | .error er, hq => exact hq.elim
theorem pe_callG (F : FnG X.prog X.w X.K X.mg X.base k f fd ps sp) (hr : Room k X.A) (hG : X.A.guards = some []) (hg : Gl X x) (hm : X.mg x = some (.ref f)) (hk : PySem.W.keepIn X.K (.ref f) = true) (hb : KBinds X.K fd ps ks g gV)
    (ha : PA X (e :: es) t) (hkw : PK X kws tk) (hall : (backToKw pos (keywordEach kws X.env)).all (·.1.isSome) = true) (hks : (backToKw pos (keywordEach kws X.env)).filterMap (·.1) = ks)
    (hdb : (x == ("__debug__" : Str)) = false) (he : starEach (e :: es) X.env = (false, eval e X.env) :: starEach es X.env)
    (hpl : ((backTo pos (starEach (e :: es) X.env)).any (·.1) || (backToKw pos (keywordEach kws X.env)).any (·.1.isNone)) = false) :
    PE X (.Call (.Name x p) (e :: es) kws pos) (fun σ H Q => t σ H fun vs H1 => tk σ H1 fun zs H2 => sp (gV vs zs) H2 Q) := by
  constructor
  intro pins s σ H Q I h
  refine wpAny_Call_Name_kw (ld_glob I hg hm ?_ hdb)
  refine PySem.W.callWith_KW (h₀ := X.base) I.ok.mod.kin hk hall (thn (ha.run pos pins s σ H _ I h) fun us s1 out1 => ?_) hpl he
  obtain ⟨vs, H1, I1, rel1, q1⟩ := out1
  refine thn (hkw.run pos pins s1 σ H1 _ I1 q1) fun ws s2 out2 => ?_
  obtain ⟨zs, H2, I2, rel2, q2⟩ := out2
  rw [hks]
  exact ⟨I2.kIn, runG F hr hG hb I2 rel1 rel2 q2⟩
theorem pe_callG0 (F : FnG X.prog X.w X.K X.mg X.base k f fd ps sp) (hr : Room k X.A) (hG : X.A.guards = some []) (hg : Gl X x) (hm : X.mg x = some (.ref f)) (hk : PySem.W.keepIn X.K (.ref f) = true) (hb : KBinds X.K fd ps ks g gV)
    (hkw : PK X kws tk) (hall : (backToKw pos (keywordEach kws X.env)).all (·.1.isSome) = true) (hks : (backToKw pos (keywordEach kws X.env)).filterMap (·.1) = ks)
    (hdb : (x == ("__debug__" : Str)) = false) (hpl : ((backTo pos (starEach [] X.env)).any (·.1) || (backToKw pos (keywordEach kws X.env)).any (·.1.isNone)) = false) :
    PE X (.Call (.Name x p) [] kws pos) (fun σ H Q => tk σ H fun zs H2 => sp (gV [] zs) H2 Q) := by
  constructor
  intro pins s σ H Q I h
  refine wpAny_Call_Name_kw (ld_glob I hg hm ?_ hdb)
  refine PySem.W.callWith_KW0 (h₀ := X.base) I.ok.mod.kin hk hall (thn (hkw.run pos pins s σ H _ I h) fun ws s2 out2 => ?_) hpl
  obtain ⟨zs, H2, I2, rel2, q2⟩ := out2
  rw [hks]
  exact ⟨I2.kIn, runG (us := []) F hr hG hb I2 .nil rel2 q2⟩
/-- repr of data -/
theorem call_reprD (hG : X.A.guards = some []) (hu : X.A.units + 64 < cLine) : CallR X (.builtin "repr") (fun xs H Q => ∃ v d, xs = [v] ∧ Dp X.K H v d ∧ RepOk d ∧ Q (.str d.shown) H) := by
  intro pins s σ H xs us Q I r h
  obtain ⟨v, d, rfl, hd, ok, q⟩ := h
  obtain ⟨u, rfl, ru⟩ := vals1 r
  obtain ⟨as, rd⟩ := Dp.reads I d v u hd ru
  have dep := ok.dp
  cases hd with
  | int i => obtain ⟨t, rfl⟩ := ru; exact PySem.P.repr_of_int (by have := ok.sh; simpa [PyData.showable] using this) ⟨.str _, H, I.tok _, ⟨_, rfl⟩, q⟩
  | lst h1 h2 =>
    cases ru
    refine repr_of_reads' rd ok.sh (fun z => absurd (ok.nd.symm.trans z) (by decide)) hG (by omega) (fun _ _ e => e) (fun h' t tk hk => ?_) ok.sz
    exact ⟨.str _, H, I.kept hk, ⟨_, rfl⟩, q⟩
  | tup h1 h2 =>
    cases ru
    refine repr_of_reads' rd ok.sh (fun z => absurd (ok.nd.symm.trans z) (by decide)) hG (by omega) (fun _ _ e => e) (fun h' t tk hk => ?_) ok.sz
    exact ⟨.str _, H, I.kept hk, ⟨_, rfl⟩, q⟩
  | non => cases ru; exact PySem.P.repr_of_none ⟨.str _, H, I.tok _, ⟨_, rfl⟩, q⟩
  | bl b => cases ru; exact PySem.P.repr_of_bool ⟨.str _, H, I.tok _, ⟨_, rfl⟩, (by cases b <;> exact q)⟩
  | str y => obtain ⟨t, rfl⟩ := ru; exact PySem.P.repr_of_str ⟨.str _, H, I.tok _, ⟨_, rfl⟩, q⟩ ok.sz
end
end DL

namespace DL
open PySem PySem.Spec PyProof.Rows L2
def BI.name : BI → Str
  | .len => "len" | .abs => "abs" | .min2 => "min" | .max2 => "max" | .int1 => "int" | .tuple1 => "tuple" | .list1 => "list" | .all1 => "all" | .any1 => "any" | .repr1 => "repr" | .sum1 => "sum" | .min1 => "min" | .max1 => "max" | .sorted1 => "sorted" | .reprE => "repr" | .min3 => "min" | .max3 => "max" | .str1 => "str" | .listD => "list"
def BI.val : BI → Value
  | .len => .builtin "len" | .abs => .builtin "abs" | .min2 => .builtin "min" | .max2 => .builtin "max" | .int1 => .type "int" | .tuple1 => .type "tuple" | .list1 => .type "list" | .all1 => .builtin "all" | .any1 => .builtin "any"
  | .repr1 => .builtin "repr" | .sum1 => .builtin "sum" | .min1 => .builtin "min" | .max1 => .builtin "max" | .sorted1 => .builtin "sorted" | .reprE => .builtin "repr" | .min3 => .builtin "min" | .max3 => .builtin "max" | .str1 => .type "str" | .listD => .type "list"
theorem BI.boot : ∀ b : BI, bootBuiltins b.name = some b.val := by
  intro b; cases b <;> decide +kernel
theorem BI.nm : ∀ b : BI, b.name ≠ "__name__" ∧ (b.name == ("__debug__" : Str)) = false := by
  intro b; cases b <;> exact ⟨by decide +kernel, by decide +kernel⟩
section
variable {X : Cx} {K : PySem.W.Frag} {η μ : List Addr} {S : DStore} {H : Hp}
def BiR (X : Cx) (b : BI) (r : List V → Hp → VK → Prop) : Prop := CallR X b.val r ∧ ∀ {η μ S H m ds vs QD Q}, Rp X.K η μ S H → RVs X.K H η μ ds vs → biD b m ds S QD → (∀ v H', Post X.K η μ H QD v H' → Q v H') → r vs H Q
theorem rvs_perm : ∀ {ds : List D} {vs ys : List V}, RVs K H η μ ds vs → ys.Perm vs → ∃ ds', ds'.Perm ds ∧ RVs K H η μ ds' ys := by
  intro ds vs ys h p
  induction p generalizing ds with
  | nil => exact ⟨ds, .refl _, h⟩
  | cons x p ih =>
    cases h with
    | cons a b =>
      obtain ⟨ds', e1, e2⟩ := ih b
      exact ⟨_ :: ds', e1.cons _, .cons a e2⟩
  | swap x y l =>
    cases h with
    | cons a b =>
      cases b with
      | cons c d => exact ⟨_, List.Perm.swap .., .cons c (.cons a d)⟩
  | trans p1 p2 ih1 ih2 =>
    obtain ⟨d1, e1, r1⟩ := ih2 h
    obtain ⟨d2, e2, r2⟩ := ih1 r1
    exact ⟨d2, e2.trans e1, r2⟩
theorem ints_rv : ∀ ns : List Int, RVs K H η μ (ns.map D.int) (ns.map V.int)
  | [] => .nil
  | n :: ns => .cons (.int n) (ints_rv ns)
theorem rks_pair : ∀ {kvs : List (List L2.Key × D)} {vs : List (List L2.Key × V)}, RKs K H η μ kvs vs → (∀ p ∈ kvs, ∃ i j : Int, p.1 = [Sum.inl i, Sum.inl j]) → ∀ p ∈ vs, ∃ i j : Int, p.1 = [Sum.inl i, Sum.inl j]
  | _, _, .nil, _, p, hp => absurd hp (by simp)
  | _, _, .cons a b, h, p, hp => by
    rcases List.mem_cons.mp hp with rfl | hp
    · exact h _ (List.mem_cons_self ..)
    · exact rks_pair b (fun q hq => h q (List.mem_cons_of_mem _ hq)) p hp
theorem rks_SI : ∀ {kvs : List (List L2.Key × D)} {vs : List (List L2.Key × V)}, RKs K H η μ kvs vs → (∀ p ∈ kvs, SI p.1) → ∀ p ∈ vs, SI p.1
  | _, _, .nil, _, p, hp => absurd hp (by simp)
  | _, _, .cons a b, h, p, hp => by
    rcases List.mem_cons.mp hp with rfl | hp
    · exact h _ (List.mem_cons_self ..)
    · exact rks_SI b (fun q hq => h q (List.mem_cons_of_mem _ hq)) p hp
theorem rks_keys : ∀ {kvs : List (List L2.Key × D)} {vs : List (List L2.Key × V)} {bs : List Addr}, RKs K H η μ kvs vs → IsKeys H vs bs → RVs K H η μ (kvs.map fun p => D.tup (p.1.map keyD)) (bs.map V.ref)
  | _, _, _, .nil, .nil => .nil
  | _, _, _, .cons a b, .cons h t => .cons (.tup (.inl (.inl h)) (keyD_rv _)) (rks_keys b t)
theorem rvs1 {d : D} {vs : List V} (h : RVs K H η μ [d] vs) : ∃ v, vs = [v] ∧ RV K H η μ d v := by
  cases h with
  | cons a b => cases b; exact ⟨_, rfl, a⟩
theorem rvs2 {d e : D} {vs : List V} (h : RVs K H η μ [d, e] vs) : ∃ v w, vs = [v, w] ∧ RV K H η μ d v ∧ RV K H η μ e w := by
  cases h with
  | cons a b => obtain ⟨w, rfl, c⟩ := rvs1 b; exact ⟨_, _, rfl, a, c⟩
theorem noR : BiR X b (fun _ _ _ => False) → True := fun _ => trivial
theorem readsAll_ints {h : Heap} : ∀ {ns : List Int} {its : List Value}, Vals (ns.map V.int) its → ReadsAll h its (ns.map PyData.int) []
  | [], _, r => by cases r; exact .nil
  | n :: ns, _, r => by
    cases r with
    | cons a b =>
      obtain ⟨t, rfl⟩ := a
      exact .cons (as := []) (bs := []) (.int _ _) (readsAll_ints b)
theorem depth_ints : ∀ xs : List Int, PyData.depthAll (xs.map .int) = 0
  | [] => rfl
  | x :: xs => by simp [PyData.depthAll, PyData.depth, depth_ints xs]
theorem alike_ints (n : Int) (ns : List Int) : PySem.W.AlikeAll (.int n :: ns.map .int) := by
  have h : ∀ x ∈ (PyData.int n :: ns.map .int), ∃ k, x = .int k := by
    intro x hx
    rcases List.mem_cons.mp hx with rfl | hx
    · exact ⟨_, rfl⟩
    · obtain ⟨k, _, rfl⟩ := List.mem_map.mp hx; exact ⟨_, rfl⟩
  refine ⟨fun x hx y hy => ?_, fun x hx => ?_⟩
  · obtain ⟨i, rfl⟩ := h x hx
    obtain ⟨j, rfl⟩ := h y hy
    rfl
  · obtain ⟨i, rfl⟩ := h x hx
    exact fun z => nomatch z
theorem foldl_min : ∀ (ns : List Int) (n : Int), ns.foldl min n ∈ n :: ns ∧ ∀ y ∈ n :: ns, ns.foldl min n ≤ y
  | [], n => ⟨by simp, fun y hy => by simp at hy; subst hy; exact Int.le_refl _⟩
  | m :: ns, n => by
    obtain ⟨h1, h2⟩ := foldl_min ns (min n m)
    simp only [List.foldl_cons]
    have h3 := h2 (min n m) (by simp)
    refine ⟨?_, fun y hy => ?_⟩
    · rcases List.mem_cons.mp h1 with h | h
      · rw [h]
        rcases Int.le_total n m with z | z
        · rw [Int.min_eq_left z]; simp
        · rw [Int.min_eq_right z]; simp
      · simp [h]
    · rcases List.mem_cons.mp hy with rfl | hy
      · omega
      · rcases List.mem_cons.mp hy with rfl | hy
        · omega
        · exact h2 y (by simp [hy])
theorem foldl_max : ∀ (ns : List Int) (n : Int), ns.foldl max n ∈ n :: ns ∧ ∀ y ∈ n :: ns, y ≤ ns.foldl max n
  | [], n => ⟨by simp, fun y hy => by simp at hy; subst hy; exact Int.le_refl _⟩
  | m :: ns, n => by
    obtain ⟨h1, h2⟩ := foldl_max ns (max n m)
    simp only [List.foldl_cons]
    have h3 := h2 (max n m) (by simp)
    refine ⟨?_, fun y hy => ?_⟩
    · rcases List.mem_cons.mp h1 with h | h
      · rw [h]
        rcases Int.le_total n m with z | z
        · rw [Int.max_eq_right z]; simp
        · rw [Int.max_eq_left z]; simp
      · simp [h]
    · rcases List.mem_cons.mp hy with rfl | hy
      · omega
      · rcases List.mem_cons.mp hy with rfl | hy
        · omega
        · exact h2 y (by simp [hy])
theorem cr_minT (hc : X.calm = true) (hu : X.A.units + 64 < cLine) : CallR X (.builtin "min") (fun vs H Q => ∃ (a : Addr) (ns : List Int), vs = [V.ref a] ∧ SqT X.K H a (ns.map V.int) ∧ 0 < ns.length ∧ ∀ m, m ∈ ns → (∀ y, y ∈ ns → m ≤ y) → Q (.int m) H) := by
  intro pins s σ H vs us Q I r h
  obtain ⟨a, ns, rfl, hs, hne, q⟩ := h
  obtain ⟨its, rv, p, _⟩ := I.tuple hs
  rw [Vals.ref1 r]
  cases ns with
  | nil => exact absurd hne (by simp)
  | cons n ns =>
    refine PySem.W.min_tuple_data (x := .int n) (xs := ns.map .int) (as := []) (I.ok.hd hc) (show s.heap.IsTuple a its.toArray from p) (readsAll_ints (ns := n :: ns) rv) (alike_ints n ns) (by rw [show PyData.int n :: ns.map .int = (n :: ns).map .int from rfl, depth_ints]; omega) fun i v h' tk bs hi rd hk => ?_
    rw [PySem.W.minD_ints] at rd
    cases rd
    obtain ⟨h1, h2⟩ := foldl_min ns n
    exact ⟨.int _, H, I.kept hk, ⟨_, rfl⟩, q _ h1 h2⟩
theorem cr_maxT (hc : X.calm = true) (hu : X.A.units + 64 < cLine) : CallR X (.builtin "max") (fun vs H Q => ∃ (a : Addr) (ns : List Int), vs = [V.ref a] ∧ SqT X.K H a (ns.map V.int) ∧ 0 < ns.length ∧ ∀ m, m ∈ ns → (∀ y, y ∈ ns → y ≤ m) → Q (.int m) H) := by
  intro pins s σ H vs us Q I r h
  obtain ⟨a, ns, rfl, hs, hne, q⟩ := h
  obtain ⟨its, rv, p, _⟩ := I.tuple hs
  rw [Vals.ref1 r]
  cases ns with
  | nil => exact absurd hne (by simp)
  | cons n ns =>
    refine PySem.W.max_tuple_data (x := .int n) (xs := ns.map .int) (as := []) (I.ok.hd hc) (show s.heap.IsTuple a its.toArray from p) (readsAll_ints (ns := n :: ns) rv) (alike_ints n ns) (by rw [show PyData.int n :: ns.map .int = (n :: ns).map .int from rfl, depth_ints]; omega) fun i v h' tk bs hi rd hk => ?_
    rw [PySem.W.maxD_ints] at rd
    cases rd
    obtain ⟨h1, h2⟩ := foldl_max ns n
    exact ⟨.int _, H, I.kept hk, ⟨_, rfl⟩, q _ h1 h2⟩
theorem tl_of (r : Rp K η μ S H) {d : D} {v : V} {xs : List D} (rv : RV K H η μ d v) (e : tlOf S d = some xs) : ∃ a vs, v = .ref a ∧ (SqL K H a vs ∨ SqT K H a vs) ∧ RVs K H η μ xs vs := by
  cases rv with
  | tup h q => simp [tlOf] at e; subst e; exact ⟨_, _, rfl, .inr h, q⟩
  | lst hm hn h q =>
    obtain ⟨a, vs, e1, e2, e3⟩ := lst_of r (.lst hm hn h q) e
    exact ⟨a, vs, e1, .inl (.inl (.inl e2)), e3⟩
  | ref h =>
    obtain ⟨a, vs, e1, e2, e3⟩ := lst_of r (.ref h) e
    exact ⟨a, vs, e1, .inl (.inl (.inl e2)), e3⟩
  | _ => simp [tlOf, lstOf] at e
theorem uniq_min {bs : List Int} {m m' : Int} (h1 : m ∈ bs) (h2 : ∀ y ∈ bs, m ≤ y) (h3 : m' ∈ bs) (h4 : ∀ y ∈ bs, m' ≤ y) : m' = m := by
  have := h2 m' h3; have := h4 m h1; omega
theorem uniq_max {bs : List Int} {m m' : Int} (h1 : m ∈ bs) (h2 : ∀ y ∈ bs, y ≤ m) (h3 : m' ∈ bs) (h4 : ∀ y ∈ bs, y ≤ m') : m' = m := by
  have := h2 m' h3; have := h4 m h1; omega
theorem rvs3 {d e f : D} {vs : List V} (h : RVs K H η μ [d, e, f] vs) : ∃ v w u, vs = [v, w, u] ∧ RV K H η μ d v ∧ RV K H η μ e w ∧ RV K H η μ f u := by
  cases h with
  | cons a b => obtain ⟨w, u, rfl, c, d⟩ := rvs2 b; exact ⟨_, _, _, rfl, a, c, d⟩
theorem biR (hc : X.calm = true) (hG : X.A.guards = some []) (hu : X.A.units + 64 < cLine) : ∀ b, ∃ r, BiR X b r
  | .len => ⟨_, call_len, fun {η μ S H m ds vs QD Q} r rv h hQ => by
      unfold biD at h
      split at h <;> first | exact h.elim | skip
      all_goals try (rename_i e1; cases e1)
      · obtain ⟨v, rfl, a⟩ := rvs1 rv; cases a
        exact ⟨_, _, rfl, ⟨h.1, rfl⟩, hQ _ _ (stay r (.int _) h.2)⟩
      · obtain ⟨v, rfl, a⟩ := rvs1 rv
        obtain ⟨xs, e, q⟩ := h
        obtain ⟨b, vs, rfl, hq, qs⟩ := seq_of r a e
        rw [qs.length] at q
        rcases hq with hq | hq
        · exact ⟨_, _, rfl, .inl ⟨_, hq, rfl⟩, hQ _ _ (stay r (.int _) q)⟩
        · exact ⟨_, _, rfl, .inr ⟨_, hq, rfl⟩, hQ _ _ (stay r (.int _) q)⟩⟩
  | .abs => ⟨_, call_abs, fun {η μ S H m ds vs QD Q} r rv h hQ => by
      unfold biD at h
      split at h <;> first | exact h.elim | skip
      all_goals try (rename_i e1; cases e1)
      · obtain ⟨v, rfl, a⟩ := rvs1 rv; cases a
        exact ⟨_, rfl, hQ _ _ (stay r (.int _) h)⟩⟩
  | .min2 => ⟨_, call_min2 hc, fun {η μ S H m ds vs QD Q} r rv h hQ => by
      unfold biD at h
      split at h <;> first | exact h.elim | skip
      all_goals try (rename_i e1; cases e1)
      · obtain ⟨v, w, rfl, a, b⟩ := rvs2 rv; cases a; cases b
        exact ⟨_, _, rfl, hQ _ _ (stay r (.int _) h)⟩⟩
  | .max2 => ⟨_, call_max2 hc, fun {η μ S H m ds vs QD Q} r rv h hQ => by
      unfold biD at h
      split at h <;> first | exact h.elim | skip
      all_goals try (rename_i e1; cases e1)
      · obtain ⟨v, w, rfl, a, b⟩ := rvs2 rv; cases a; cases b
        exact ⟨_, _, rfl, hQ _ _ (stay r (.int _) h)⟩⟩
  | .int1 => ⟨_, call_int1, fun {η μ S H m ds vs QD Q} r rv h hQ => by
      unfold biD at h
      split at h <;> first | exact h.elim | skip
      all_goals try (rename_i e1; cases e1)
      · obtain ⟨v, rfl, a⟩ := rvs1 rv; cases a
        exact .inl ⟨_, rfl, hQ _ _ (stay r (.int _) h)⟩
      · obtain ⟨v, rfl, a⟩ := rvs1 rv; cases a
        exact .inr ⟨_, rfl, hQ _ _ (stay r (.int _) h)⟩⟩
  | .tuple1 => ⟨_, call_tuple_of, fun {η μ S H m ds vs QD Q} r rv h hQ => by
      unfold biD at h
      split at h <;> first | exact h.elim | skip
      all_goals try (rename_i e1; cases e1)
      · obtain ⟨v, rfl, a⟩ := rvs1 rv
        cases a with
        | tup h1 q1 => exact ⟨_, _, rfl, .inr ⟨h1, hQ _ _ (stay r (.tup h1 q1) h)⟩⟩
      · obtain ⟨v, rfl, a⟩ := rvs1 rv
        obtain ⟨xs, e, q⟩ := h
        obtain ⟨b, vs, rfl, hq, qs⟩ := lst_of r a e
        exact ⟨_, _, rfl, .inl ⟨.inl (.inl hq), fun p hp => hQ _ _ (new_tup r qs q p hp)⟩⟩⟩
  | .list1 => ⟨_, call_list_of, fun {η μ S H m ds vs QD Q} r rv h hQ => by
      unfold biD at h
      split at h <;> first | exact h.elim | skip
      all_goals try (rename_i e1; cases e1)
      · obtain ⟨v, rfl, a⟩ := rvs1 rv
        obtain ⟨xs, e, q⟩ := h
        obtain ⟨b, vs, rfl, hq, qs⟩ := seq_of r a e
        exact ⟨_, _, rfl, hq, fun p hp => hQ _ _ (new_lst r qs q p hp)⟩⟩
  | .all1 => ⟨_, cr_all hc, fun {η μ S H m ds vs QD Q} r rv h hQ => by
      unfold biD at h
      split at h <;> first | exact h.elim | skip
      all_goals try (rename_i e1; cases e1)
      · obtain ⟨v, rfl, a⟩ := rvs1 rv
        obtain ⟨xs, bs, e, eb, q⟩ := h
        obtain ⟨b, vs, rfl, hq, qs⟩ := lst_of r a e
        exact ⟨_, bs, rfl, .inl (.inl (by rw [← bls_of qs eb]; exact hq)), hQ _ _ (stay r (.bl _) q)⟩⟩
  | .any1 => ⟨_, cr_any hc, fun {η μ S H m ds vs QD Q} r rv h hQ => by
      unfold biD at h
      split at h <;> first | exact h.elim | skip
      all_goals try (rename_i e1; cases e1)
      · obtain ⟨v, rfl, a⟩ := rvs1 rv
        obtain ⟨xs, bs, e, eb, q⟩ := h
        obtain ⟨b, vs, rfl, hq, qs⟩ := lst_of r a e
        exact ⟨_, bs, rfl, .inl (.inl (by rw [← bls_of qs eb]; exact hq)), hQ _ _ (stay r (.bl _) q)⟩⟩
  | .sum1 => ⟨_, cr_sum hc, fun {η μ S H m ds vs QD Q} r rv h hQ => by
      unfold biD at h
      split at h <;> first | exact h.elim | skip
      all_goals try (rename_i e1; cases e1)
      · obtain ⟨v, rfl, a⟩ := rvs1 rv
        obtain ⟨xs, bs, e, eb, q⟩ := h
        obtain ⟨b, vs, rfl, hq, qs⟩ := lst_of r a e
        exact ⟨_, bs, rfl, .inl (.inl (by rw [← ints_of qs eb]; exact hq)), hQ _ _ (stay r (.int _) q)⟩⟩
  | .repr1 => ⟨_, call_reprD hG hu, fun {η μ S H m ds vs QD Q} r rv h hQ => by
      unfold biD at h
      split at h <;> first | exact h.elim | skip
      all_goals try (rename_i e1; cases e1)
      · obtain ⟨v, rfl, a⟩ := rvs1 rv
        obtain ⟨p, e, ok, q⟩ := h
        exact ⟨_, p, rfl, dpS_of r a e, ok, hQ _ _ (stay r (.str _) q)⟩⟩
  | .reprE => ⟨_, call_reprE hG hu, fun {η μ S H m ds vs QD Q} r rv h hQ => by
      unfold biD at h
      split at h <;> first | exact h.elim | skip
      all_goals try (rename_i e1; cases e1)
      · obtain ⟨v, rfl, a⟩ := rvs1 rv
        obtain ⟨p, e, ok, q⟩ := h
        exact ⟨_, p, rfl, dpE_of r a e, ok, hQ _ _ (stay r (.str _) q)⟩⟩
  | .min1 => ⟨_, (cr_min hc).or (cr_minT hc hu), fun {η μ S H m ds vs QD Q} r rv h hQ => by
      unfold biD at h
      split at h <;> first | exact h.elim | skip
      all_goals try (rename_i e1; cases e1)
      · obtain ⟨v, rfl, a⟩ := rvs1 rv
        obtain ⟨xs, bs, k, e, eb, hk1, hk2, q⟩ := h
        obtain ⟨b, vs, rfl, hq, qs⟩ := tl_of r a e
        have hl : 0 < bs.length := List.length_pos_of_mem hk1
        rw [ints_of qs eb] at hq
        rcases hq with hq | hq
        · exact .inl ⟨_, bs, rfl, hq, hl, fun k' h1 h2 => by rw [uniq_min hk1 hk2 h1 h2]; exact hQ _ _ (stay r (.int _) q)⟩
        · exact .inr ⟨_, bs, rfl, hq, hl, fun k' h1 h2 => by rw [uniq_min hk1 hk2 h1 h2]; exact hQ _ _ (stay r (.int _) q)⟩⟩
  | .max1 => ⟨_, (cr_max hc).or (cr_maxT hc hu), fun {η μ S H m ds vs QD Q} r rv h hQ => by
      unfold biD at h
      split at h <;> first | exact h.elim | skip
      all_goals try (rename_i e1; cases e1)
      · obtain ⟨v, rfl, a⟩ := rvs1 rv
        obtain ⟨xs, bs, k, e, eb, hk1, hk2, q⟩ := h
        obtain ⟨b, vs, rfl, hq, qs⟩ := tl_of r a e
        have hl : 0 < bs.length := List.length_pos_of_mem hk1
        rw [ints_of qs eb] at hq
        rcases hq with hq | hq
        · exact .inl ⟨_, bs, rfl, hq, hl, fun k' h1 h2 => by rw [uniq_max hk1 hk2 h1 h2]; exact hQ _ _ (stay r (.int _) q)⟩
        · exact .inr ⟨_, bs, rfl, hq, hl, fun k' h1 h2 => by rw [uniq_max hk1 hk2 h1 h2]; exact hQ _ _ (stay r (.int _) q)⟩⟩
  | .min3 => ⟨_, call_min3Nu hc, fun {η μ S H m ds vs QD Q} r rv h hQ => by
      unfold biD at h
      split at h <;> first | exact h.elim | skip
      all_goals try (rename_i e1; cases e1)
      · obtain ⟨v, w, u, rfl, a, b, c⟩ := rvs3 rv; cases a; cases b; cases c
        refine ⟨_, _, _, _, rfl, ?_, hQ _ _ (stay r (.int _) h)⟩
        simp only [nuMin3, nuMin2, nuLt, nuCB, Option.map_some, Option.bind_some, decide_eq_true_eq, gt_iff_lt]
        first
          | rfl
          | (split <;> simp only [nuLt, nuCB, Option.map_some, decide_eq_true_eq] <;> first | rfl | (split <;> rfl))⟩
  | .max3 => ⟨_, call_max3Nu hc, fun {η μ S H m ds vs QD Q} r rv h hQ => by
      unfold biD at h
      split at h <;> first | exact h.elim | skip
      all_goals try (rename_i e1; cases e1)
      · obtain ⟨v, w, u, rfl, a, b, c⟩ := rvs3 rv; cases a; cases b; cases c
        refine ⟨_, _, _, _, rfl, ?_, hQ _ _ (stay r (.int _) h)⟩
        simp only [nuMax3, nuMax2, nuLt, nuCB, Option.map_some, Option.bind_some, decide_eq_true_eq, gt_iff_lt]
        first
          | rfl
          | (split <;> simp only [nuLt, nuCB, Option.map_some, decide_eq_true_eq] <;> first | rfl | (split <;> rfl))⟩
  | .str1 => ⟨_, call_str_int, fun {η μ S H m ds vs QD Q} r rv h hQ => by
      unfold biD at h
      split at h <;> first | exact h.elim | skip
      all_goals try (rename_i e1; cases e1)
      · obtain ⟨v, rfl, a⟩ := rvs1 rv
        obtain ⟨i, rfl, hl, q⟩ := h
        cases a
        exact ⟨_, rfl, hl, hQ _ _ (stay r (.str _) q)⟩⟩
  | .listD => ⟨_, call_list_dT hc, fun {η μ S H m ds vs QD Q} r rv h hQ => by
      unfold biD at h
      split at h <;> first | exact h.elim | skip
      all_goals try (rename_i e1; cases e1)
      · obtain ⟨v, rfl, a⟩ := rvs1 rv
        obtain ⟨n, kvs, rfl, e, q⟩ := h
        obtain ⟨b, vs, rfl, hd, ks⟩ := dct_of r a e
        exact ⟨_, _, rfl, hd, fun p bs hpn hk => hQ _ _ (new_lst r (rks_keys ks hk) q p hpn)⟩⟩
  | .sorted1 => ⟨_, cr_sortedI.or ((cr_sortedDT hc).or (cr_sortedDS hc hu)), fun {η μ S H m ds vs QD Q} r rv h hQ => by
      unfold biD at h
      split at h <;> first | exact h.elim | skip
      all_goals try (rename_i e1; cases e1)
      · obtain ⟨v, rfl, a⟩ := rvs1 rv
        rcases h with ⟨xs, ns, e, en, q⟩ | ⟨n, kvs, rfl, e, hp, q⟩ | ⟨n, kvs, rfl, e, hp, q⟩
        · obtain ⟨b, vs, rfl, hq, qs⟩ := lst_of r a e
          rw [ints_of qs en] at hq
          exact .inl ⟨b, ns, rfl, .inl (.inl hq), fun ns' p h1 h2 hpn => hQ _ _ (new_lst r (ints_rv ns') (q ns' h1 h2) p hpn)⟩
        · obtain ⟨b, vs, rfl, hd, ks⟩ := dct_of r a e
          refine .inr (.inl ⟨b, vs, rfl, hd, rks_pair ks hp, fun p ys bs hpn hk hperm => ?_⟩)
          obtain ⟨ds', e1, e2⟩ := rvs_perm (rks_keys ks hk) hperm
          exact hQ _ _ (new_lst r e2 (q ds' e1) p hpn)
        · obtain ⟨b, vs, rfl, hd, ks⟩ := dct_of r a e
          refine .inr (.inr ⟨b, vs, rfl, hd, rks_SI ks hp, fun p ys bs hpn hk hperm => ?_⟩)
          obtain ⟨ds', e1, e2⟩ := rvs_perm (rks_keys ks hk) hperm
          exact hQ _ _ (new_lst r e2 (q ds' e1) p hpn)⟩
end
end DL

/-! enumerate over a tuple -/
namespace DL
open PySem PySem.Spec PyProof.Rows L2
theorem meets_enumerate_newT (l : Addr) (items : Array Value) :
    Meets (Builtin.«enumerate.__new__» ⟨[.type "enumerate", .ref l], []⟩) (fun _ R s => s.heap.IsTuple l items ∧
      R (.ok (.ret (.ref (s.heap.push { cls := .type "tuple_iterator", data := .fields #[.ref l, .int 0 0] }).objs.size)))
        { s with heap := (s.heap.push { cls := .type "tuple_iterator", data := .fields #[.ref l, .int 0 0] }).push { cls := .type "enumerate", data := .fields #[.none, .bool false, .ref s.heap.objs.size, rawInt 0, .none, .none] } }) :=
  .of_wp fun prog w A R s h => by
    obtain ⟨hp, g, d, tk, os⟩ := s; obtain ⟨hl, h⟩ := h
    have hsub := sub_enumerate
    have hL : Heap.IsTuple (Shared.heap ⟨hp, g, d, tk, os⟩) l items := hl
    wp_walk
    refine wpAny_stack_any fun st => wpAny_pure ?_
    split
    · rename_i c _ _ _ _ _
      cases (c == Value.type "enumerate")
      · wp_walk using wpAny_pyIter_tuple hL
        exact ⟨_, rfl, h⟩
      · wp_walk using wpAny_pyIter_tuple hL
        exact ⟨_, rfl, h⟩
    · wp_walk using wpAny_pyIter_tuple hL
      exact ⟨_, rfl, h⟩
section
variable {prog : Program} {w : World} {A : Around} {E : Value → Shared → Prop} {s : Shared}
theorem call_enumerate_tuple {l : Addr} {items : Array Value} {Q : Value → Shared → Prop} (hL : s.heap.IsTuple l items)
    (h : ∀ h', IsEnum h' (s.heap.objs.size + 1) s.heap.objs.size 0 .none → h'.IsTupleIter s.heap.objs.size l 0 → h'.objs.size = s.heap.objs.size + 2 →
      (∀ b o, s.heap.get? b = some o → h'.get? b = some o) → Q (.ref (s.heap.objs.size + 1)) { s with heap := h' }) :
    wpAny (model prog w) A (call (.type "enumerate") [.ref l]) Q E s := by
  refine callType_new F.called_enumerate (by decide) (F.typeCall_enumerate_1 _) (F.newCall_enumerate_1 _) (fun obj => F.args_object_init_2 obj _) F.entry_enumerate_new
    (meets_enumerate_newT l items) ⟨hL, ?_⟩
  have hz : (s.heap.push { cls := .type "tuple_iterator", data := .fields #[.ref l, .int 0 0] }).objs.size = s.heap.objs.size + 1 := Heap.size_push ..
  show _ ∧ _
  rw [hz]
  have he : IsEnum ((s.heap.push { cls := .type "tuple_iterator", data := .fields #[.ref l, .int 0 0] }).push
      { cls := .type "enumerate", data := .fields #[.none, .bool false, .ref s.heap.objs.size, rawInt 0, .none, .none] }) (s.heap.objs.size + 1) s.heap.objs.size 0 .none := by
    have := Heap.get?_push_size (s.heap.push { cls := .type "tuple_iterator", data := .fields #[.ref l, .int 0 0] })
      (o := { cls := .type "enumerate", data := .fields #[.none, .bool false, .ref s.heap.objs.size, rawInt 0, .none, .none] }) rfl
    rw [hz] at this; exact this
  refine ⟨⟨_, he, rfl⟩, h _ he ⟨_, Heap.get?_push_of_some _ (Heap.get?_push_size _ rfl), rfl, rfl⟩ (by rw [Heap.size_push, hz]) fun b o x => Heap.get?_push_of_some _ (Heap.get?_push_of_some _ x)⟩
theorem pyNext_enumT_end {e it l : Addr} {i : Nat} {items : Array Value} {old : Value} {Q : Option Value → Shared → Prop} (hh : A.handled = none)
    (he : IsEnum s.heap e it i old) (hit : s.heap.IsTupleIter it l i) (hl : s.heap.IsTuple l items) (hx : items[i]? = none)
    (hQ : ∀ h', Heap.ExtBut it s.heap h' → Q none { s with heap := h' }) : wpAny (model prog w) A (pyNext (.ref e)) Q E s := by
  have hT : s.TypeIs (.ref e) "enumerate" := ⟨_, he, rfl⟩
  unfold pyNext
  refine wpAny_bind (wpAny_attempt (wpAny_callSpecial?_slot (name := Str.ofString "__next__") hT F.slot_enumerate_next
    (wpAny_call_entry F.slot_enumerate_next hT F.entry_enumerate_next ?_ (F.args_enumerate_next_1 _))))
  show wpAny _ _ (field (.ref e) 2 >>= _) _ _ _
  refine wpAny_bind (wpAny_field he rfl (x := .ref it) rfl ?_)
  refine wpAny_bind (RZ.nextOf_tuple_end hh hit hl hx fun h' x he' hx' => ?_)
  obtain ⟨o, ho, hc⟩ := hx'
  refine wpAny_bind (wpAny_isInstance (T := "StopIteration") (b := true) ⟨o, ho, hc⟩ isSubtype_stop ?_)
  exact wpAny_pure (hQ _ he')
end
/-- the tuple at a, each item in a new pair -/
def IteT (K : PySem.W.Frag) (a : Addr) : It :=
  ⟨fun i H => ∃ (xs : List V) (x : V), SqT K H a xs ∧ xs[i]? = some x, fun i H v H' => ∃ T x, v = .ref T ∧ H T = none ∧ H' = upd H T (.tup [.int (i : Nat), x]) ∧ ∀ xs, SqT K H a xs → xs[i]? = some x, fun i H => ∃ xs : List V, SqT K H a xs ∧ xs.length ≤ i⟩
theorem turn_enumT {P : Program} {w : World} {K : PySem.W.Frag} {elts : List Expr} {kk : Nat} {tpos : Pos} (a e it : Addr) (hae : a ≠ e) (hai : a ≠ it) :
    Turn P w K (.Tuple elts kk tpos) (IteT K a) [e, it] e (fun i h => (∃ old, IsEnum h e it ((i : Nat) : Int) old) ∧ h.IsTupleIter it a i ∧ e ≠ it) where
  mem := by simp
  obj := fun i h st b hb => by
    obtain ⟨⟨old, he⟩, ⟨o, ho, hc, hd⟩, _⟩ := st
    have e' : b = e ∨ b = it := by simpa using hb
    rcases e' with z | z
    · rw [z]; exact ⟨_, he, fun v q => nomatch q⟩
    · rw [z]; exact ⟨o, ho, fun v q => by rw [hd] at q; cases q⟩
  keep := fun i h h' st k => let ⟨⟨old, he⟩, hi, hne⟩ := st; ⟨⟨old, k e (by simp) _ he⟩, hi.at fun o q => k it (by simp) o q, hne⟩
  item := by
    intro X hP hw hK hc i pins s σ H E I hf st hg
    subst hP hw hK
    obtain ⟨⟨old, he⟩, hit, hne⟩ := st
    obtain ⟨xs, x, hq, hx⟩ := hg
    obtain ⟨its, rv, p, hz⟩ := I.tuple hq
    obtain ⟨u, hu, ru⟩ := rv.get hx
    have hul : i < its.toArray.size := by simpa using (List.getElem?_eq_some_iff.mp hu).1
    have hel : e < s.heap.objs.size := Heap.lt_size he
    have hil : it < s.heap.objs.size := by obtain ⟨_, q, _⟩ := hit; exact Heap.lt_size q
    refine wpAny_pyNext_enum_itemD (Draws.tuple (A := X.A.in1) (show X.A.in1.handled = none from I.ok.hd hc) it a hai its.toArray) he ⟨hit, p⟩ hul hne (by simp [hne, Ne.symm hae]) fun y h' tk hy ho hst hT hsz hk => ?_
    have hyu : y = u := Option.some.inj (hy.symm.trans (by simpa using hu))
    subst hyu
    refine ⟨_, rfl, wpAny_letOwnedTupleGo_enum (s := { s with heap := h', toks := tk + 1 }) ho fun h'' he' sb => ?_⟩
    have hT2 : h''.get? s.heap.objs.size = some { cls := .type "tuple", data := .seq #[.int i tk, y] } := (sb.2 _ (Nat.ne_of_gt hel)).trans hT
    have new : ObjOk X.prog X.w (upd H s.heap.objs.size (.tup [.int (i : Nat), x])) h'' s.heap.objs.size (.tup [.int (i : Nat), x]) :=
      ⟨by show 2 ≤ sizeLine; decide, [.int i tk, y], .cons ⟨_, rfl⟩ (.cons ru .nil), ⟨_, hT2, rfl, _, rfl⟩⟩
    have I1 : Inv X pins σ (upd H s.heap.objs.size (.tup [.int (i : Nat), x])) { s with heap := h'', toks := tk + 1 } :=
      I.turnedNew (ch := [e, it]) (fun b ob hb q => (sb.2 b (fun z => hb (by simp [z]))).trans (hk b ob (fun z => hb (by simp [z])) (fun z => hb (by simp [z])) q)) hf (Nat.le_refl _) new
    refine ⟨.ref s.heap.objs.size, _, I1, rfl, ⟨_, x, rfl, I.hok.fresh (Nat.le_refl _), rfl, fun ys hy => by rw [I.tuple_inj hy hq]; exact hx⟩, ⟨⟨y, ?_⟩, hst.1.at fun o q => (sb.2 it (Ne.symm hne)).trans q, hne⟩, fun b hb => ?_⟩
    · have e1 : ((i + 1 : Nat) : Int) = (i : Int) + 1 := by omega
      rw [e1]; exact he'
    · have hb' : b < s.heap.objs.size := by
        have e' : b = e ∨ b = it := by simpa using hb
        rcases e' with z | z
        · rw [z]; exact hel
        · rw [z]; exact hil
      rw [upd_ne (Nat.ne_of_lt hb')]
      exact (hf b hb).1
  done := by
    intro X hP hw hK hc i pins s σ H E I hf st hg
    subst hP hw hK
    obtain ⟨⟨old, he⟩, hit, hne⟩ := st
    obtain ⟨xs, hq, hx⟩ := hg
    obtain ⟨its, rv, p, hz⟩ := I.tuple hq
    obtain ⟨f0, f1, f2, f3, f4, f5⟩ := hf it (by simp)
    have hl := rv.length
    exact pyNext_enumT_end (I.ok.hd hc) he hit (show s.heap.IsTuple a its.toArray from p) (by simp; omega) fun h' eb => ⟨rfl, I.turned (t' := s.toks) (fun b o hb q => eb b o hb q) f0 f1 f3 f4 f5⟩
  self := fun A i s Q E st h => let ⟨⟨_, he⟩, _⟩ := st; wpAny_pyIter_enum he h
def iEnumT (K : PySem.W.Frag) (ta : TA) : TI := fun σ H R => ta σ H fun vs H1 => ∃ a xs, vs = [.ref a] ∧ ((SqL K H1 a xs ∧ R (Ite K a) H1) ∨ (SqT K H1 a xs ∧ R (IteT K a) H1))
theorem pi_enumA {X : Cx} {e : Expr} {ta : TA} {p pos tpos : Pos} {elts : List Expr} {kk : Nat} (hg : Gl X "enumerate") (hm : X.mg "enumerate" = none) (ha : PA X [e] ta) (hs : starEach [e] X.env = [(false, eval e X.env)] := by rfl) :
    PI X (.Tuple elts kk tpos) (.Call (.Name "enumerate" p) [e] [] pos) (iEnumT X.K ta) := by
  refine ⟨fun pins s σ H R I h => ?_⟩
  refine Call_ (ld_blt I hg hm boot_enumerate (PyProof.Rows.callWith_type1 (thn (ha.run pos pins s σ H _ I h) fun us s1 ⟨vs, H1, I1, r1, q1⟩ => ?_) hs rfl))
  obtain ⟨a, xs, ex, q⟩ := q1
  subst ex
  cases r1 with
  | cons r rr =>
    cases rr
    cases r
    have fr : ∀ b ∈ [s1.heap.objs.size + 1, s1.heap.objs.size], FpOk X pins H1 b := fun b hb => by
      have e' : b = s1.heap.objs.size + 1 ∨ b = s1.heap.objs.size := by simpa using hb
      have hle : s1.heap.objs.size ≤ b := by
        rcases e' with z | z
        · rw [z]; exact Nat.le_add_right _ _
        · rw [z]; exact Nat.le_refl _
      exact I1.fpOk hle (I1.hok.fresh hle)
    rcases q with ⟨hq, q⟩ | ⟨hq, q⟩
    · obtain ⟨its, rv, p', hz⟩ := I1.list hq
      refine call_enumerate_list p'.isList fun h' he hit hsz hk => wpAny_pyIter_enum he ?_
      have I2 : Inv X pins σ H1 { s1 with heap := h' } := I1.kept (t' := s1.toks) hk
      exact ⟨s1.heap.objs.size + 1, [s1.heap.objs.size + 1, s1.heap.objs.size], _, _, H1, rfl, I2, turn_enum a (s1.heap.objs.size + 1) s1.heap.objs.size, ⟨⟨.none, he⟩, hit, Nat.succ_ne_self _⟩, fr, q⟩
    · obtain ⟨its, rv, p', hz⟩ := I1.tuple hq
      obtain ⟨o1, ho1, _⟩ := id p'
      have hlt := Heap.lt_size ho1
      refine call_enumerate_tuple (show s1.heap.IsTuple a its.toArray from p') fun h' he hit hsz hk => wpAny_pyIter_enum he ?_
      have I2 : Inv X pins σ H1 { s1 with heap := h' } := I1.kept (t' := s1.toks) hk
      exact ⟨s1.heap.objs.size + 1, [s1.heap.objs.size + 1, s1.heap.objs.size], _, _, H1, rfl, I2, turn_enumT a (s1.heap.objs.size + 1) s1.heap.objs.size (Nat.ne_of_lt (Nat.lt_succ_of_lt hlt)) (Nat.ne_of_lt hlt), ⟨⟨.none, he⟩, hit, Nat.succ_ne_self _⟩, fr, q⟩
/-! ### zip of a list and a tuple, in any mix -/
/-- a tuple (true) or a list (false) -/
def SqA (K : PySem.W.Frag) (k : Bool) (H : Hp) (a : Addr) (xs : List V) : Prop := if k = true then SqT K H a xs else SqL K H a xs
def IsSA (k : Bool) (h : Heap) (a : Addr) (its : Array Value) : Prop := if k = true then h.IsTuple a its else h.IsList a its
def IsIA (k : Bool) (h : Heap) (it a : Addr) (i : Nat) : Prop := if k = true then h.IsTupleIter it a i else h.IsListIter it a i
theorem IsIA.at {k : Bool} {h h' : Heap} {it a : Addr} {i : Nat} (x : IsIA k h it a i) (e : ∀ o, h.get? it = some o → h'.get? it = some o) : IsIA k h' it a i := by
  cases k with
  | true => exact Heap.IsTupleIter.at (show h.IsTupleIter it a i from x) e
  | false => exact Heap.IsListIter.at (show h.IsListIter it a i from x) e
theorem IsIA.obj {k : Bool} {h : Heap} {it a : Addr} {i : Nat} (x : IsIA k h it a i) : ∃ o, h.get? it = some o ∧ ∀ v, o.data ≠ .cell v := by
  cases k with
  | true => obtain ⟨o, e, _, d⟩ := (show h.IsTupleIter it a i from x); exact ⟨o, e, fun v q => by rw [d] at q; cases q⟩
  | false => obtain ⟨o, e, _, d⟩ := (show h.IsListIter it a i from x); exact ⟨o, e, fun v q => by rw [d] at q; cases q⟩
theorem draws_A {prog : Program} {w : World} {A : Around} (hh : A.handled = none) (k : Bool) (it t : Addr) (hne : t ≠ it) (items : Array Value) :
    Draws prog w A it [it, t] items.size (fun i v => items[i]? = some v) (fun i h => IsIA k h it t i ∧ IsSA k h t items) := by
  cases k with
  | true => exact Draws.tuple hh it t hne items
  | false => exact Draws.list hh it t hne items
theorem inv_A {X : Cx} {pins : List (Addr × Obj)} {σ : L2.St} {H : Hp} {s : Shared} {k : Bool} {a : Addr} {xs : List V} (I : Inv X pins σ H s) (h : SqA X.K k H a xs) : ∃ its : List Value, Vals xs its ∧ IsSA k s.heap a its.toArray := by
  cases k with
  | true => obtain ⟨its, rv, p, _⟩ := I.tuple (show SqT X.K H a xs from h); exact ⟨its, rv, p⟩
  | false => obtain ⟨its, rv, p, _⟩ := I.list (show SqL X.K H a xs from h); exact ⟨its, rv, p.isList⟩
theorem inj_A {X : Cx} {pins : List (Addr × Obj)} {σ : L2.St} {H : Hp} {s : Shared} {k : Bool} {a : Addr} {xs ys : List V} (I : Inv X pins σ H s) (h : SqA X.K k H a xs) (h' : SqA X.K k H a ys) : xs = ys := by
  cases k with
  | true => exact I.tuple_inj (show SqT X.K H a xs from h) h'
  | false => exact I.list_inj (show SqL X.K H a xs from h) h'
def ItzM (K : PySem.W.Frag) (k1 k2 : Bool) (a b : Addr) : It :=
  ⟨fun i H => ∃ (xs ys : List V) (x y : V), SqA K k1 H a xs ∧ SqA K k2 H b ys ∧ xs[i]? = some x ∧ ys[i]? = some y,
    fun i H v H' => ∃ T x y, v = .ref T ∧ H T = none ∧ H' = upd H T (.tup [x, y]) ∧ (∀ xs, SqA K k1 H a xs → xs[i]? = some x) ∧ ∀ ys, SqA K k2 H b ys → ys[i]? = some y,
    fun i H => ∃ xs ys : List V, SqA K k1 H a xs ∧ SqA K k2 H b ys ∧ i ≤ xs.length ∧ i ≤ ys.length ∧ (i = xs.length ∨ i = ys.length)⟩
theorem sep_of {a b z TI TO i1 i2 : Addr} (D : ZipApart z TI TO i1 i2 a b) : ZipSep2 z TI TO i1 i2 [i1, a] [i2, b] where
  TIz := D.TIz
  TOz := D.TOz
  TITO := D.TITO
  TIi1 := D.TIi1
  mem1 := by simp
  zf1 := by simp [Ne.symm D.i1z, Ne.symm D.l1z]
  Tf1 := by simp [D.TOi1, Ne.symm D.l1TO]
  TIi2 := D.TIi2
  mem2 := by simp
  zf2 := by simp [Ne.symm D.i2z, Ne.symm D.l2z]
  Tf2 := by simp [D.TOi2, Ne.symm D.l2TO]
  sep1_2 := by simp [D.i12, Ne.symm D.l2i1]
  sep2_1 := by simp [Ne.symm D.i12, Ne.symm D.l1i2]
theorem turn_zipM {P : Program} {w : World} {K : PySem.W.Frag} {elts : List Expr} {kk : Nat} {tpos : Pos} {k1 k2 : Bool} {a b z TI TO i1 i2 : Addr} (D : ZipApart z TI TO i1 i2 a b) :
    Turn P w K (.Tuple elts kk tpos) (ItzM K k1 k2 a b) [z, TI, TO, i1, i2] z (fun i h => IsZip h z TI TO .none ∧ IsPair h TI (.ref i1) (.ref i2) ∧ (∃ x y, IsPair h TO x y) ∧ IsIA k1 h i1 a i ∧ IsIA k2 h i2 b i) where
  mem := by simp
  obj := fun i h st c hc => by
    obtain ⟨hz, hTI, ⟨x, y, hTO⟩, h1, h2⟩ := st
    have e' : c = z ∨ c = TI ∨ c = TO ∨ c = i1 ∨ c = i2 := by simpa using hc
    rcases e' with q | q | q | q | q
    · rw [q]; exact ⟨_, hz, fun v q => nomatch q⟩
    · rw [q]; exact ⟨_, hTI, fun v q => nomatch q⟩
    · rw [q]; exact ⟨_, hTO, fun v q => nomatch q⟩
    · rw [q]; exact h1.obj
    · rw [q]; exact h2.obj
  keep := fun i h h' st k => by
    obtain ⟨hz, hTI, ⟨x, y, hTO⟩, h1, h2⟩ := st
    exact ⟨k z (by simp) _ hz, k TI (by simp) _ hTI, ⟨x, y, k TO (by simp) _ hTO⟩, h1.at fun o q => k i1 (by simp) o q, h2.at fun o q => k i2 (by simp) o q⟩
  item := by
    intro X hP hw hK hc i pins s σ H E I hf st hg
    subst hP hw hK
    obtain ⟨hz, hTI, ⟨x0, y0, hTO⟩, h1, h2⟩ := st
    obtain ⟨xs, ys, x, y, hqx, hqy, hx, hy⟩ := hg
    obtain ⟨its, rv, p⟩ := inv_A I hqx
    obtain ⟨its2, rv2, p2⟩ := inv_A I hqy
    obtain ⟨u, hu, ru⟩ := rv.get hx
    obtain ⟨u2, hu2, ru2⟩ := rv2.get hy
    have hl1 : i < its.toArray.size := by simpa using (List.getElem?_eq_some_iff.mp hu).1
    have hl2 : i < its2.toArray.size := by simpa using (List.getElem?_eq_some_iff.mp hu2).1
    have hh : X.A.in1.handled = none := I.ok.hd hc
    have hzl : z < s.heap.objs.size := Heap.lt_size hz
    refine wpAny_pyNext_zipD2_item (sep_of D) (draws_A hh k1 i1 a D.l1i1 its.toArray) (draws_A hh k2 i2 b D.l2i2 its2.toArray) hz hTI hTO ⟨h1, p⟩ ⟨h2, p2⟩ hl1 hl2 fun v1 v2 h' tk e1 e2 z' TO' s1' s2' hT hsz hk => ?_
    have q1 : v1 = u := Option.some.inj (e1.symm.trans (by simpa using hu))
    have q2 : v2 = u2 := Option.some.inj (e2.symm.trans (by simpa using hu2))
    subst q1 q2
    refine ⟨_, rfl, wpAny_letOwnedTupleGo_zip (s := { s with heap := h', toks := tk }) z' fun h'' z'' sb => ?_⟩
    have hT2 : h''.get? s.heap.objs.size = some { cls := .type "tuple", data := .seq #[v1, v2] } := (sb.2 _ (Nat.ne_of_gt hzl)).trans hT
    have new : ObjOk X.prog X.w (upd H s.heap.objs.size (.tup [x, y])) h'' s.heap.objs.size (.tup [x, y]) :=
      ⟨by show 2 ≤ sizeLine; decide, [v1, v2], .cons ru (.cons ru2 .nil), ⟨_, hT2, rfl, _, rfl⟩⟩
    have I1 : Inv X pins σ (upd H s.heap.objs.size (.tup [x, y])) { s with heap := h'', toks := tk } :=
      I.turnedNew (t' := tk) (ch := [z, TI, TO, i1, i2]) (fun c o hb q => (sb.2 c (fun q' => hb (by simp [q']))).trans (hk c o (fun q' => hb (by simp [q'])) (fun q' => hb (by simp [q'])) (fun q' => hb (by simp [q'])) (fun q' => hb (by simp [q'])) q)) hf (Nat.le_refl _) new
    refine ⟨.ref s.heap.objs.size, _, I1, rfl, ⟨_, x, y, rfl, I.hok.fresh (Nat.le_refl _), rfl, fun l hl => by rw [inj_A I hl hqx]; exact hx, fun l hl => by rw [inj_A I hl hqy]; exact hy⟩, ⟨z'', ?_, ⟨v1, v2, ?_⟩, ?_, ?_⟩, fun c hcm => ?_⟩
    · exact (sb.2 _ D.TIz).trans (hk _ _ D.TIz D.TITO D.TIi1 D.TIi2 hTI)
    · exact (sb.2 _ D.TOz).trans TO'
    · exact s1'.1.at fun o q => (sb.2 _ D.i1z).trans q
    · exact s2'.1.at fun o q => (sb.2 _ D.i2z).trans q
    · have hlt : c < s.heap.objs.size := by
        have e' : c = z ∨ c = TI ∨ c = TO ∨ c = i1 ∨ c = i2 := by simpa using hcm
        rcases e' with q | q | q | q | q
        · rw [q]; exact hzl
        · rw [q]; exact Heap.lt_size hTI
        · rw [q]; exact Heap.lt_size hTO
        · rw [q]; obtain ⟨_, e1, _⟩ := h1.obj; exact Heap.lt_size e1
        · rw [q]; obtain ⟨_, e2, _⟩ := h2.obj; exact Heap.lt_size e2
      rw [upd_ne (Nat.ne_of_lt hlt)]
      exact (hf c hcm).1
  done := by
    intro X hP hw hK hc i pins s σ H E I hf st hg
    subst hP hw hK
    obtain ⟨hz, hTI, ⟨x0, y0, hTO⟩, h1, h2⟩ := st
    obtain ⟨xs, ys, hqx, hqy, hl1, hl2, hend⟩ := hg
    obtain ⟨its, rv, p⟩ := inv_A I hqx
    obtain ⟨its2, rv2, p2⟩ := inv_A I hqy
    have n1 := rv.length
    have n2 := rv2.length
    have hh : X.A.in1.handled = none := I.ok.hd hc
    exact wpAny_pyNext_zipD2_end (sep_of D) (draws_A hh k1 i1 a D.l1i1 its.toArray) (draws_A hh k2 i2 b D.l2i2 its2.toArray) hz hTI hTO ⟨h1, p⟩ ⟨h2, p2⟩ (by simp; omega) (by simp; omega) (by simp; omega) fun h' tk hk => ⟨rfl, I.turnedL (t' := tk) (ch := [z, TI, TO, i1, i2]) (fun c o hb q =>
      hk c o (fun q' => hb (by simp [q'])) (fun q' => hb (by simp [q'])) (fun q' => hb (by simp [q'])) (fun q' => hb (by simp [q'])) q) hf⟩
  self := fun A i s Q E st h => wpAny_pyIter_zip st.1 h
/-! the call of zip over any two -/
def itC (k : Bool) : String := if k then "tuple_iterator" else "list_iterator"
abbrev zmH1 (k1 : Bool) (h : Heap) (l1 : Addr) : Heap := h.push { cls := .type (itC k1), data := .fields #[.ref l1, .int 0 0] }
abbrev zmH2 (k1 k2 : Bool) (h : Heap) (l1 l2 : Addr) : Heap := (zmH1 k1 h l1).push { cls := .type (itC k2), data := .fields #[.ref l2, .int 0 0] }
abbrev zmH3 (k1 k2 : Bool) (h : Heap) (l1 l2 : Addr) : Heap := (zmH2 k1 k2 h l1 l2).push { cls := .type "tuple", data := .seq #[.ref h.objs.size, .ref (zmH1 k1 h l1).objs.size] }
abbrev zmH4 (k1 k2 : Bool) (h : Heap) (l1 l2 : Addr) : Heap := (zmH3 k1 k2 h l1 l2).push { cls := .type "tuple", data := .seq #[.none, .none] }
abbrev zmH5 (k1 k2 : Bool) (h : Heap) (l1 l2 : Addr) : Heap := (zmH4 k1 k2 h l1 l2).push { cls := .type "zip", data := .fields #[.none, .bool false, .bool false, .ref (zmH2 k1 k2 h l1 l2).objs.size, .ref (zmH3 k1 k2 h l1 l2).objs.size] }
abbrev zmTLH1 (h : Heap) (l1 : Addr) : Heap := h.push { cls := .type "tuple_iterator", data := .fields #[.ref l1, .int 0 0] }
abbrev zmTLH2 (h : Heap) (l1 l2 : Addr) : Heap := (zmTLH1 h l1).push { cls := .type "list_iterator", data := .fields #[.ref l2, .int 0 0] }
abbrev zmTLH3 (h : Heap) (l1 l2 : Addr) : Heap := (zmTLH2 h l1 l2).push { cls := .type "tuple", data := .seq #[.ref h.objs.size, .ref (zmTLH1 h l1).objs.size] }
abbrev zmTLH4 (h : Heap) (l1 l2 : Addr) : Heap := (zmTLH3 h l1 l2).push { cls := .type "tuple", data := .seq #[.none, .none] }
abbrev zmTLH5 (h : Heap) (l1 l2 : Addr) : Heap := (zmTLH4 h l1 l2).push { cls := .type "zip", data := .fields #[.none, .bool false, .bool false, .ref (zmTLH2 h l1 l2).objs.size, .ref (zmTLH3 h l1 l2).objs.size] }
abbrev zmLTH1 (h : Heap) (l1 : Addr) : Heap := h.push { cls := .type "list_iterator", data := .fields #[.ref l1, .int 0 0] }
abbrev zmLTH2 (h : Heap) (l1 l2 : Addr) : Heap := (zmLTH1 h l1).push { cls := .type "tuple_iterator", data := .fields #[.ref l2, .int 0 0] }
abbrev zmLTH3 (h : Heap) (l1 l2 : Addr) : Heap := (zmLTH2 h l1 l2).push { cls := .type "tuple", data := .seq #[.ref h.objs.size, .ref (zmLTH1 h l1).objs.size] }
abbrev zmLTH4 (h : Heap) (l1 l2 : Addr) : Heap := (zmLTH3 h l1 l2).push { cls := .type "tuple", data := .seq #[.none, .none] }
abbrev zmLTH5 (h : Heap) (l1 l2 : Addr) : Heap := (zmLTH4 h l1 l2).push { cls := .type "zip", data := .fields #[.none, .bool false, .bool false, .ref (zmLTH2 h l1 l2).objs.size, .ref (zmLTH3 h l1 l2).objs.size] }
set_option maxHeartbeats 1000000 in
theorem meets_zipTL_new (l1 l2 : Addr) (xs ys : Array Value) :
    Meets (Builtin.«zip.__new__» ⟨[.type "zip", .ref l1, .ref l2], []⟩) (fun _ R s => s.heap.IsTuple l1 xs ∧ s.heap.IsList l2 ys ∧
      R (.ok (.ret (.ref (zmTLH4 s.heap l1 l2).objs.size))) { s with heap := zmTLH5 s.heap l1 l2 }) :=
  .of_wp fun prog w A R s h => by
    obtain ⟨hp, g, d, tk, os⟩ := s; obtain ⟨hl1, hl2, h⟩ := h
    have hsub := sub_zip
    have hL1 : Heap.IsTuple (Shared.heap ⟨hp, g, d, tk, os⟩) l1 xs := hl1
    have hL2 : Heap.IsList (Shared.heap ⟨hp.push { cls := .type "tuple_iterator", data := .fields #[.ref l1, .int 0 0] }, g, d, tk, os⟩) l2 ys := Heap.IsList.push hl2 _
    wp_walk using wpAny_pyIter_tuple hL1, wpAny_pyIter_list hL2
    exact ⟨_, rfl, h⟩
set_option maxHeartbeats 1000000 in
theorem meets_zipLT_new (l1 l2 : Addr) (xs ys : Array Value) :
    Meets (Builtin.«zip.__new__» ⟨[.type "zip", .ref l1, .ref l2], []⟩) (fun _ R s => s.heap.IsList l1 xs ∧ s.heap.IsTuple l2 ys ∧
      R (.ok (.ret (.ref (zmLTH4 s.heap l1 l2).objs.size))) { s with heap := zmLTH5 s.heap l1 l2 }) :=
  .of_wp fun prog w A R s h => by
    obtain ⟨hp, g, d, tk, os⟩ := s; obtain ⟨hl1, hl2, h⟩ := h
    have hsub := sub_zip
    have hL1 : Heap.IsList (Shared.heap ⟨hp, g, d, tk, os⟩) l1 xs := hl1
    have hL2 : Heap.IsTuple (Shared.heap ⟨hp.push { cls := .type "list_iterator", data := .fields #[.ref l1, .int 0 0] }, g, d, tk, os⟩) l2 ys := Heap.IsTuple.push hl2 _
    wp_walk using wpAny_pyIter_list hL1, wpAny_pyIter_tuple hL2
    exact ⟨_, rfl, h⟩
theorem meets_zipM_new (k1 k2 : Bool) (l1 l2 : Addr) (xs ys : Array Value) :
    Meets (Builtin.«zip.__new__» ⟨[.type "zip", .ref l1, .ref l2], []⟩) (fun _ R s => IsSA k1 s.heap l1 xs ∧ IsSA k2 s.heap l2 ys ∧
      R (.ok (.ret (.ref (zmH4 k1 k2 s.heap l1 l2).objs.size))) { s with heap := zmH5 k1 k2 s.heap l1 l2 }) := by
  cases k1 <;> cases k2
  · exact meets_zip_new l1 l2 xs ys
  · exact meets_zipLT_new l1 l2 xs ys
  · exact meets_zipTL_new l1 l2 xs ys
  · exact RZ.meets_zipT_new l1 l2 xs ys
theorem call_zipM {prog : Program} {w : World} {A : Around} {E : Value → Shared → Prop} {s : Shared} {k1 k2 : Bool} {l1 l2 : Addr} {xs ys : Array Value} {Q : Value → Shared → Prop} (hl1 : IsSA k1 s.heap l1 xs) (hl2 : IsSA k2 s.heap l2 ys)
    (h : ∀ h', IsZip h' (s.heap.objs.size + 4) (s.heap.objs.size + 2) (s.heap.objs.size + 3) .none → IsPair h' (s.heap.objs.size + 2) (.ref s.heap.objs.size) (.ref (s.heap.objs.size + 1)) →
      IsPair h' (s.heap.objs.size + 3) .none .none → IsIA k1 h' s.heap.objs.size l1 0 → IsIA k2 h' (s.heap.objs.size + 1) l2 0 → h'.objs.size = s.heap.objs.size + 5 →
      (∀ c o, s.heap.get? c = some o → h'.get? c = some o) → Q (.ref (s.heap.objs.size + 4)) { s with heap := h' }) :
    wpAny (model prog w) A (call (.type "zip") [.ref l1, .ref l2]) Q E s := by
  refine callType_new F.called_zip (by decide) (F.typeCall_zip_2 _ _) (F.newCall_zip_2 _ _) (fun obj => F.args_object_init_3 obj _ _) F.entry_zip_new
    (meets_zipM_new k1 k2 l1 l2 xs ys) ⟨hl1, hl2, ?_⟩
  have z1 : (zmH1 k1 s.heap l1).objs.size = s.heap.objs.size + 1 := Heap.size_push ..
  have z2 : (zmH2 k1 k2 s.heap l1 l2).objs.size = s.heap.objs.size + 2 := by rw [Heap.size_push, z1]
  have z3 : (zmH3 k1 k2 s.heap l1 l2).objs.size = s.heap.objs.size + 3 := by rw [Heap.size_push, z2]
  have z4 : (zmH4 k1 k2 s.heap l1 l2).objs.size = s.heap.objs.size + 4 := by rw [Heap.size_push, z3]
  have z5 : (zmH5 k1 k2 s.heap l1 l2).objs.size = s.heap.objs.size + 5 := by rw [Heap.size_push, z4]
  have g5 : (zmH5 k1 k2 s.heap l1 l2).get? (zmH4 k1 k2 s.heap l1 l2).objs.size = some _ := Heap.get?_push_size _ rfl
  have g4 : (zmH5 k1 k2 s.heap l1 l2).get? (zmH3 k1 k2 s.heap l1 l2).objs.size = some _ := Heap.get?_push_of_some _ (Heap.get?_push_size _ rfl)
  have g3 : (zmH5 k1 k2 s.heap l1 l2).get? (zmH2 k1 k2 s.heap l1 l2).objs.size = some _ := Heap.get?_push_of_some _ (Heap.get?_push_of_some _ (Heap.get?_push_size _ rfl))
  have g2 : (zmH5 k1 k2 s.heap l1 l2).get? (zmH1 k1 s.heap l1).objs.size = some _ := Heap.get?_push_of_some _ (Heap.get?_push_of_some _ (Heap.get?_push_of_some _ (Heap.get?_push_size _ rfl)))
  have g1 : (zmH5 k1 k2 s.heap l1 l2).get? s.heap.objs.size = some _ := Heap.get?_push_of_some _ (Heap.get?_push_of_some _ (Heap.get?_push_of_some _ (Heap.get?_push_of_some _ (Heap.get?_push_size _ rfl))))
  show _ ∧ _
  rw [z2, z3, z4] at g5
  rw [z1, z2] at g3
  rw [z3] at g4
  rw [z1] at g2
  rw [z4]
  refine ⟨⟨_, g5, rfl⟩, h _ g5 g3 g4 ?_ ?_ z5 fun c o x =>
    Heap.get?_push_of_some _ (Heap.get?_push_of_some _ (Heap.get?_push_of_some _ (Heap.get?_push_of_some _ (Heap.get?_push_of_some _ x))))⟩
  · cases k1
    · exact ⟨_, g1, rfl, rfl⟩
    · exact ⟨_, g1, rfl, rfl⟩
  · cases k2
    · exact ⟨_, g2, rfl, rfl⟩
    · exact ⟨_, g2, rfl, rfl⟩
theorem IsSA.lt {k : Bool} {h : Heap} {a : Addr} {its : Array Value} (x : IsSA k h a its) : a < h.objs.size := by
  cases k with
  | true => obtain ⟨o, e, _⟩ := (show h.IsTuple a its from x); exact Heap.lt_size e
  | false => obtain ⟨o, e, _⟩ := (show h.IsList a its from x); exact Heap.lt_size e
def iZipM (K : PySem.W.Frag) (ta : TA) : TI := fun σ H R => ta σ H fun vs H1 => ∃ a b k1 k2 xs ys, vs = [.ref a, .ref b] ∧ SqA K k1 H1 a xs ∧ SqA K k2 H1 b ys ∧ R (ItzM K k1 k2 a b) H1
theorem pi_zipM {X : Cx} {e e2 : Expr} {ta : TA} {p pos tpos : Pos} {elts : List Expr} {kk : Nat} (hg : Gl X "zip") (hm : X.mg "zip" = none) (ha : PA X [e, e2] ta)
    (hs : starEach [e, e2] X.env = (false, eval e X.env) :: starEach [e2] X.env := by rfl) (hpl : (backTo pos (starEach [e2] X.env)).any (·.1) = false := by rfl) :
    PI X (.Tuple elts kk tpos) (.Call (.Name "zip" p) [e, e2] [] pos) (iZipM X.K ta) := by
  refine ⟨fun pins s σ H R I h => ?_⟩
  refine Call_ (ld_blt I hg hm PyProof.Rows.boot_zip (PyProof.Rows.callWith_type1 (thn (ha.run pos pins s σ H _ I h) fun us s1 ⟨vs, H1, I1, r1, q1⟩ => ?_) hs hpl))
  obtain ⟨a, b, k1, k2, xs, ys, ex, hqx, hqy, q⟩ := q1
  subst ex
  cases r1 with
  | cons r rr =>
    cases rr with
    | cons r' rr =>
      cases rr
      cases r
      cases r'
      have fresh5 : ∀ c, c ∈ [s1.heap.objs.size + 4, s1.heap.objs.size + 2, s1.heap.objs.size + 3, s1.heap.objs.size, s1.heap.objs.size + 1] → FpOk X pins H1 c := fun c hcm => by
        have e' : c = s1.heap.objs.size + 4 ∨ c = s1.heap.objs.size + 2 ∨ c = s1.heap.objs.size + 3 ∨ c = s1.heap.objs.size ∨ c = s1.heap.objs.size + 1 := by simpa using hcm
        have hle : s1.heap.objs.size ≤ c := by
          rcases e' with z | z | z | z | z
          · rw [z]; exact Nat.le_add_right _ _
          · rw [z]; exact Nat.le_add_right _ _
          · rw [z]; exact Nat.le_add_right _ _
          · rw [z]; exact Nat.le_refl _
          · rw [z]; exact Nat.le_add_right _ _
        exact I1.fpOk hle (I1.hok.fresh hle)
      obtain ⟨its, rv, p1⟩ := inv_A I1 hqx
      obtain ⟨its2, rv2, p2⟩ := inv_A I1 hqy
      refine call_zipM p1 p2 fun h' hz hTI hTO h1 h2 hsz hk => wpAny_pyIter_zip hz ?_
      have I2 : Inv X pins σ H1 { s1 with heap := h' } := I1.kept (t' := s1.toks) hk
      exact ⟨s1.heap.objs.size + 4, [s1.heap.objs.size + 4, s1.heap.objs.size + 2, s1.heap.objs.size + 3, s1.heap.objs.size, s1.heap.objs.size + 1], _, _, H1, rfl, I2, turn_zipM (PySem.W.ktu_apart s1.heap.objs.size a b p1.lt p2.lt), ⟨hz, hTI, ⟨_, _, hTO⟩, h1, h2⟩, fresh5, q⟩
end DL

set_option maxHeartbeats 4000000
/-! zip of three, each a list or a tuple -/
namespace DL
open PySem PySem.Spec PyProof.Rows L2
def ItzM3 (K : PySem.W.Frag) (k1 k2 k3 : Bool) (a b c : Addr) : It :=
  ⟨fun i H => ∃ (xs ys zs : List V) (x y z : V), SqA K k1 H a xs ∧ SqA K k2 H b ys ∧ SqA K k3 H c zs ∧ xs[i]? = some x ∧ ys[i]? = some y ∧ zs[i]? = some z,
    fun i H v H' => ∃ T x y z, v = .ref T ∧ H T = none ∧ H' = upd H T (.tup [x, y, z]) ∧ (∀ xs, SqA K k1 H a xs → xs[i]? = some x) ∧ (∀ ys, SqA K k2 H b ys → ys[i]? = some y) ∧ ∀ zs, SqA K k3 H c zs → zs[i]? = some z,
    fun i H => ∃ xs ys zs : List V, SqA K k1 H a xs ∧ SqA K k2 H b ys ∧ SqA K k3 H c zs ∧ i ≤ xs.length ∧ i ≤ ys.length ∧ i ≤ zs.length ∧ (i = xs.length ∨ i = ys.length ∨ i = zs.length)⟩
/-- a source lies ahead of its iterator -/
structure Far3 (z TI TO i1 i2 i3 a b c : Addr) : Prop where
  S : ZipSep3 z TI TO i1 i2 i3 [i1, a] [i2, b] [i3, c]
  ai : a ≠ i1
  bi : b ≠ i2
  ci : c ≠ i3
theorem turn_zipM3 {P : Program} {w : World} {K : PySem.W.Frag} {elts : List Expr} {kk : Nat} {tpos : Pos} {k1 k2 k3 : Bool} {a b c z TI TO i1 i2 i3 : Addr} (D : Far3 z TI TO i1 i2 i3 a b c) :
    Turn P w K (.Tuple elts kk tpos) (ItzM3 K k1 k2 k3 a b c) [z, TI, TO, i1, i2, i3] z (fun i h => IsZip h z TI TO .none ∧ IsTupOf3 h TI (.ref i1) (.ref i2) (.ref i3) ∧ (∃ x y u, IsTupOf3 h TO x y u) ∧ IsIA k1 h i1 a i ∧ IsIA k2 h i2 b i ∧ IsIA k3 h i3 c i) where
  mem := by simp
  obj := fun i h st d hc => by
    obtain ⟨hz, hTI, ⟨x, y, u, hTO⟩, h1, h2, h3⟩ := st
    have e' : d = z ∨ d = TI ∨ d = TO ∨ d = i1 ∨ d = i2 ∨ d = i3 := by simpa using hc
    rcases e' with q | q | q | q | q | q
    · rw [q]; exact ⟨_, hz, fun v q => nomatch q⟩
    · rw [q]; exact ⟨_, hTI, fun v q => nomatch q⟩
    · rw [q]; exact ⟨_, hTO, fun v q => nomatch q⟩
    · rw [q]; exact h1.obj
    · rw [q]; exact h2.obj
    · rw [q]; exact h3.obj
  keep := fun i h h' st k => by
    obtain ⟨hz, hTI, ⟨x, y, u, hTO⟩, h1, h2, h3⟩ := st
    exact ⟨k z (by simp) _ hz, k TI (by simp) _ hTI, ⟨x, y, u, k TO (by simp) _ hTO⟩, h1.at fun o q => k i1 (by simp) o q, h2.at fun o q => k i2 (by simp) o q, h3.at fun o q => k i3 (by simp) o q⟩
  item := by
    intro X hP hw hK hc i pins s σ H E I hf st hg
    subst hP hw hK
    obtain ⟨hz, hTI, ⟨x0, y0, u0, hTO⟩, h1, h2, h3⟩ := st
    obtain ⟨xs, ys, zs, x, y, u, hqx, hqy, hqz, hx, hy, hu⟩ := hg
    obtain ⟨its, rv, p⟩ := inv_A I hqx
    obtain ⟨its2, rv2, p2⟩ := inv_A I hqy
    obtain ⟨its3, rv3, p3⟩ := inv_A I hqz
    obtain ⟨w1, hw1, rw1⟩ := rv.get hx
    obtain ⟨w2, hw2, rw2⟩ := rv2.get hy
    obtain ⟨w3, hw3, rw3⟩ := rv3.get hu
    have hl1 : i < its.toArray.size := by simpa using (List.getElem?_eq_some_iff.mp hw1).1
    have hl2 : i < its2.toArray.size := by simpa using (List.getElem?_eq_some_iff.mp hw2).1
    have hl3 : i < its3.toArray.size := by simpa using (List.getElem?_eq_some_iff.mp hw3).1
    have hh : X.A.in1.handled = none := I.ok.hd hc
    have hzl : z < s.heap.objs.size := Heap.lt_size hz
    have S := D.S
    refine wpAny_pyNext_zipD3_item S (draws_A hh k1 i1 a D.ai its.toArray) (draws_A hh k2 i2 b D.bi its2.toArray) (draws_A hh k3 i3 c D.ci its3.toArray) hz hTI hTO ⟨h1, p⟩ ⟨h2, p2⟩ ⟨h3, p3⟩ hl1 hl2 hl3 fun v1 v2 v3 h' tk e1 e2 e3 z' TO' s1' s2' s3' hT hsz hk => ?_
    have q1 : v1 = w1 := Option.some.inj (e1.symm.trans (by simpa using hw1))
    have q2 : v2 = w2 := Option.some.inj (e2.symm.trans (by simpa using hw2))
    have q3 : v3 = w3 := Option.some.inj (e3.symm.trans (by simpa using hw3))
    subst q1 q2 q3
    refine ⟨_, rfl, wpAny_letOwnedTupleGo_zip (s := { s with heap := h', toks := tk }) z' fun h'' z'' sb => ?_⟩
    have hT2 : h''.get? s.heap.objs.size = some { cls := .type "tuple", data := .seq #[v1, v2, v3] } := (sb.2 _ (Nat.ne_of_gt hzl)).trans hT
    have new : ObjOk X.prog X.w (upd H s.heap.objs.size (.tup [x, y, u])) h'' s.heap.objs.size (.tup [x, y, u]) :=
      ⟨by show 3 ≤ sizeLine; decide, [v1, v2, v3], .cons rw1 (.cons rw2 (.cons rw3 .nil)), ⟨_, hT2, rfl, _, rfl⟩⟩
    have I1 : Inv X pins σ (upd H s.heap.objs.size (.tup [x, y, u])) { s with heap := h'', toks := tk } :=
      I.turnedNew (t' := tk) (ch := [z, TI, TO, i1, i2, i3]) (fun d o hb q => (sb.2 d (fun q' => hb (by simp [q']))).trans (hk d o (fun q' => hb (by simp [q'])) (fun q' => hb (by simp [q'])) (fun q' => hb (by simp [q'])) (fun q' => hb (by simp [q'])) (fun q' => hb (by simp [q'])) q)) hf (Nat.le_refl _) new
    refine ⟨.ref s.heap.objs.size, _, I1, rfl, ⟨_, x, y, u, rfl, I.hok.fresh (Nat.le_refl _), rfl, fun l hl => by rw [inj_A I hl hqx]; exact hx, fun l hl => by rw [inj_A I hl hqy]; exact hy, fun l hl => by rw [inj_A I hl hqz]; exact hu⟩, ⟨z'', ?_, ⟨v1, v2, v3, ?_⟩, ?_, ?_, ?_⟩, fun d hcm => ?_⟩
    · exact (sb.2 _ S.TIz).trans (hk _ _ S.TIz S.TITO S.TIi1 S.TIi2 S.TIi3 hTI)
    · exact (sb.2 _ S.TOz).trans TO'
    · exact s1'.1.at fun o q => (sb.2 _ (Ne.symm S.zi1)).trans q
    · exact s2'.1.at fun o q => (sb.2 _ (Ne.symm S.zi2)).trans q
    · exact s3'.1.at fun o q => (sb.2 _ (Ne.symm S.zi3)).trans q
    · have hlt : d < s.heap.objs.size := by
        have e' : d = z ∨ d = TI ∨ d = TO ∨ d = i1 ∨ d = i2 ∨ d = i3 := by simpa using hcm
        rcases e' with q | q | q | q | q | q
        · rw [q]; exact hzl
        · rw [q]; exact Heap.lt_size hTI
        · rw [q]; exact Heap.lt_size hTO
        · rw [q]; obtain ⟨_, e1, _⟩ := h1.obj; exact Heap.lt_size e1
        · rw [q]; obtain ⟨_, e2, _⟩ := h2.obj; exact Heap.lt_size e2
        · rw [q]; obtain ⟨_, e3, _⟩ := h3.obj; exact Heap.lt_size e3
      rw [upd_ne (Nat.ne_of_lt hlt)]
      exact (hf d hcm).1
  done := by
    intro X hP hw hK hc i pins s σ H E I hf st hg
    subst hP hw hK
    obtain ⟨hz, hTI, ⟨x0, y0, u0, hTO⟩, h1, h2, h3⟩ := st
    obtain ⟨xs, ys, zs, hqx, hqy, hqz, hl1, hl2, hl3, hend⟩ := hg
    obtain ⟨its, rv, p⟩ := inv_A I hqx
    obtain ⟨its2, rv2, p2⟩ := inv_A I hqy
    obtain ⟨its3, rv3, p3⟩ := inv_A I hqz
    have n1 := rv.length
    have n2 := rv2.length
    have n3 := rv3.length
    have hh : X.A.in1.handled = none := I.ok.hd hc
    exact wpAny_pyNext_zipD3_end D.S (draws_A hh k1 i1 a D.ai its.toArray) (draws_A hh k2 i2 b D.bi its2.toArray) (draws_A hh k3 i3 c D.ci its3.toArray) hz hTI hTO ⟨h1, p⟩ ⟨h2, p2⟩ ⟨h3, p3⟩ (by simp; omega) (by simp; omega) (by simp; omega) (by simp; omega) fun h' tk hk => ⟨rfl, I.turnedL (t' := tk) (ch := [z, TI, TO, i1, i2, i3]) (fun d o hb q =>
      hk d o (fun q' => hb (by simp [q'])) (fun q' => hb (by simp [q'])) (fun q' => hb (by simp [q'])) (fun q' => hb (by simp [q'])) (fun q' => hb (by simp [q'])) q) hf⟩
  self := fun A i s Q E st h => wpAny_pyIter_zip st.1 h
def itObj (k : Bool) (a : Addr) : Obj := if k then { cls := .type "tuple_iterator", data := .fields #[.ref a, .int 0 0] } else { cls := .type "list_iterator", data := .fields #[.ref a, .int 0 0] }
theorem begins_A (k : Bool) (a : Addr) (items : Array Value) : Begins (.ref a) (itObj k a) fun h => IsSA k h a items := by
  cases k with
  | true => exact begins_tuple a items
  | false => exact begins_list a items
theorem iter_A {k : Bool} {h : Heap} {it a : Addr} (e : h.get? it = some (itObj k a)) : IsIA k h it a 0 := by
  cases k with
  | true => exact ⟨_, e, rfl, rfl⟩
  | false => exact ⟨_, e, rfl, rfl⟩
theorem far3_of {s a b c : Nat} (ha : a < s) (hb : b < s) (hc : c < s) : Far3 (s + 5) (s + 3) (s + 4) s (s + 1) (s + 2) a b c := by
  refine ⟨⟨?_, ?_, ?_, ?_, ?_, ?_, ?_, ?_, ?_, ?_, ?_, ?_, ?_, ?_, ?_, ?_, ?_, ?_, ?_, ?_, ?_⟩, ?_, ?_, ?_⟩ <;> (try simp only [List.mem_cons, List.not_mem_nil, or_false, true_or, not_or]) <;> (try refine ⟨?_, ?_⟩) <;> first | (intro z; exact absurd (show (_ : Nat) = (_ : Nat) from z) (by omega)) | trivial
def iZipM3 (K : PySem.W.Frag) (ta : TA) : TI := fun σ H R => ta σ H fun vs H1 => ∃ a b c k1 k2 k3 xs ys zs, vs = [.ref a, .ref b, .ref c] ∧ SqA K k1 H1 a xs ∧ SqA K k2 H1 b ys ∧ SqA K k3 H1 c zs ∧ R (ItzM3 K k1 k2 k3 a b c) H1
theorem pi_zipM3 {X : Cx} {e e2 e3 : Expr} {ta : TA} {p pos tpos : Pos} {elts : List Expr} {kk : Nat} (hg : Gl X "zip") (hm : X.mg "zip" = none) (ha : PA X [e, e2, e3] ta)
    (hs : starEach [e, e2, e3] X.env = (false, eval e X.env) :: starEach [e2, e3] X.env := by rfl) (hpl : (backTo pos (starEach [e2, e3] X.env)).any (·.1) = false := by rfl) :
    PI X (.Tuple elts kk tpos) (.Call (.Name "zip" p) [e, e2, e3] [] pos) (iZipM3 X.K ta) := by
  refine ⟨fun pins s σ H R I h => ?_⟩
  refine Call_ (ld_blt I hg hm PyProof.Rows.boot_zip (PyProof.Rows.callWith_type1 (thn (ha.run pos pins s σ H _ I h) fun us s1 ⟨vs, H1, I1, r1, q1⟩ => ?_) hs hpl))
  obtain ⟨a, b, c, k1, k2, k3, xs, ys, zs, ex, hqx, hqy, hqz, q⟩ := q1
  subst ex
  cases r1 with
  | cons r rr =>
    cases rr with
    | cons r' rr =>
      cases rr with
      | cons r'' rr =>
        cases rr
        cases r
        cases r'
        cases r''
        have fresh6 : ∀ d, d ∈ [s1.heap.objs.size + 5, s1.heap.objs.size + 3, s1.heap.objs.size + 4, s1.heap.objs.size, s1.heap.objs.size + 1, s1.heap.objs.size + 2] → FpOk X pins H1 d := fun d hcm => by
          have hle : s1.heap.objs.size ≤ d := by
            simp only [List.mem_cons, List.not_mem_nil, or_false] at hcm
            omega
          exact I1.fpOk hle (I1.hok.fresh hle)
        obtain ⟨its, rv, p1⟩ := inv_A I1 hqx
        obtain ⟨its2, rv2, p2⟩ := inv_A I1 hqy
        obtain ⟨its3, rv3, p3⟩ := inv_A I1 hqz
        refine zip_begins3 (begins_A k1 a its.toArray) (begins_A k2 b its2.toArray) (begins_A k3 c its3.toArray) p1 p2 p3 fun h' hz hTI hTO h1 h2 h3 hsz hk => wpAny_pyIter_zip hz ?_
        have I2 : Inv X pins σ H1 { s1 with heap := h' } := I1.kept (t' := s1.toks) hk
        exact ⟨s1.heap.objs.size + 5, [s1.heap.objs.size + 5, s1.heap.objs.size + 3, s1.heap.objs.size + 4, s1.heap.objs.size, s1.heap.objs.size + 1, s1.heap.objs.size + 2], _, _, H1, rfl, I2, turn_zipM3 (far3_of p1.lt p2.lt p3.lt), ⟨hz, hTI, ⟨_, _, _, hTO⟩, iter_A h1, iter_A h2, iter_A h3⟩, fresh6, q⟩
end DL

set_option maxHeartbeats 4000000
/-! list(zip(a, b)) of two lists -/
namespace DL
open PySem PySem.Spec PyProof.Rows L2
theorem zip_no_len : typeLookup (.type "zip") "__len__" = pure none := by rw [typeLookup_type, builtinLookup_eq_fast]; kernel_rfl
theorem zip_no_hint : typeLookup (.type "zip") "__length_hint__" = pure none := by rw [typeLookup_type, builtinLookup_eq_fast]; kernel_rfl
/-- a zip amid its turns, its pairs held -/
def ZilSt (h : Heap) (z TI TO i1 i2 l1 l2 S : Addr) (i : Nat) (xs ys : Array Value) : Prop :=
  IsPair h TI (.ref i1) (.ref i2) ∧ h.IsListIter i1 l1 i ∧ h.IsListIter i2 l2 i ∧ h.IsList l1 xs ∧ h.IsList l2 ys ∧
    ((IsZip h z TI TO .none ∧ ∃ a b, IsPair h TO a b) ∨ ∃ T f oT, IsZipHeld h z TI TO T f ∧ h.get? T = some oT ∧ T ≠ z ∧ T ≠ i1 ∧ T ≠ i2 ∧ T ≠ S)
structure ZilOff (z TI TO i1 i2 l1 l2 S : Addr) : Prop where
  z : z ≠ S
  TI : TI ≠ S
  TO : TO ≠ S
  i1 : i1 ≠ S
  i2 : i2 ≠ S
  l1 : l1 ≠ S
  l2 : l2 ≠ S
section
variable {prog : Program} {w : World} {A : Around} {E : Value → Shared → Prop} {s : Shared} {z TI TO i1 i2 l1 l2 S : Addr} {i : Nat} {xs ys : Array Value}
theorem ZilSt.keep {h h' : Heap} (O : ZilOff z TI TO i1 i2 l1 l2 S) (st : ZilSt h z TI TO i1 i2 l1 l2 S i xs ys) (hk : ∀ b o, b ≠ S → h.get? b = some o → h'.get? b = some o) : ZilSt h' z TI TO i1 i2 l1 l2 S i xs ys := by
  obtain ⟨hTI, h1, h2, hl1, hl2, hz⟩ := st
  refine ⟨hk _ _ O.TI hTI, h1.at fun o e => hk _ o O.i1 e, h2.at fun o e => hk _ o O.i2 e, hl1.at fun o e => hk _ o O.l1 e, hl2.at fun o e => hk _ o O.l2 e, ?_⟩
  rcases hz with ⟨hz, a, b, hTO⟩ | ⟨T, f, oT, hz, hT, r1, r2, r3, r4⟩
  · exact .inl ⟨hk _ _ O.z hz, a, b, hk _ _ O.TO hTO⟩
  · exact .inr ⟨T, f, oT, hk _ _ O.z hz, hk _ _ r4 hT, r1, r2, r3, r4⟩
theorem zil_item {x y : Value} {Q : Option Value → Shared → Prop} (D : ZipApart z TI TO i1 i2 l1 l2) (st : ZilSt s.heap z TI TO i1 i2 l1 l2 S i xs ys) (hS : S < s.heap.objs.size) (hx : xs[i]? = some x) (hy : ys[i]? = some y)
    (hQ : ∀ h', ZilSt h' z TI TO i1 i2 l1 l2 S (i + 1) xs ys → IsPair h' s.heap.objs.size x y → h'.objs.size = s.heap.objs.size + 1 → (∀ c o, c ≠ z → c ≠ TO → c ≠ i1 → c ≠ i2 → s.heap.get? c = some o → h'.get? c = some o) → Q (some (.ref s.heap.objs.size)) { s with heap := h' }) :
    wpAny (model prog w) A (pyNext (.ref z)) Q E s := by
  obtain ⟨hTI, h1, h2, hl1, hl2, hz⟩ := st
  have lt : ∀ {c o}, s.heap.get? c = some o → s.heap.objs.size ≠ c := fun e => Nat.ne_of_gt (Heap.lt_size e)
  have n1 : s.heap.objs.size ≠ i1 := let ⟨_, e, _⟩ := h1; lt e
  have n2 : s.heap.objs.size ≠ i2 := let ⟨_, e, _⟩ := h2; lt e
  rcases hz with ⟨hz, a, b, hTO⟩ | ⟨T, f, oT, hz, hT, r1, r2, r3, r4⟩
  · refine wpAny_pyNext_zip_item D hz hTI hTO h1 h2 hl1 hl2 hx hy fun h' a1 a2 a3 a4 a5 a6 hk => ?_
    exact hQ h' ⟨hk _ _ D.TIz D.TITO D.TIi1 D.TIi2 hTI, a3, a4, hl1.at fun o e => hk _ o D.l1z D.l1TO D.l1i1 D.l1i2 e, hl2.at fun o e => hk _ o D.l2z D.l2TO D.l2i1 D.l2i2 e,
      .inr ⟨s.heap.objs.size, false, _, a1, a5, lt hz, n1, n2, Nat.ne_of_gt hS⟩⟩ a5 a6 hk
  · refine wpAny_pyNext_zip_item_held D hz hT hTI h1 h2 hl1 hl2 hx hy fun h' a1 a3 a4 a5 a6 hk => ?_
    exact hQ h' ⟨hk _ _ D.TIz D.TIi1 D.TIi2 hTI, a3, a4, hl1.at fun o e => hk _ o D.l1z D.l1i1 D.l1i2 e, hl2.at fun o e => hk _ o D.l2z D.l2i1 D.l2i2 e,
      .inr ⟨T, true, oT, a1, hk _ _ r1 r2 r3 hT, r1, r2, r3, r4⟩⟩ a5 a6 fun c o c1 _ c2 c3 e => hk c o c1 c2 c3 e
theorem zil_done {Q : Option Value → Shared → Prop} (hh : A.handled = none) (D : ZipApart z TI TO i1 i2 l1 l2) (st : ZilSt s.heap z TI TO i1 i2 l1 l2 S i xs ys) (hend : xs[i]? = none ∨ ys[i]? = none)
    (hQ : ∀ h', (∀ c o, c ≠ z → c ≠ TO → c ≠ i1 → c ≠ i2 → s.heap.get? c = some o → h'.get? c = some o) → Q none { s with heap := h' }) : wpAny (model prog w) A (pyNext (.ref z)) Q E s := by
  obtain ⟨hTI, h1, h2, hl1, hl2, hz⟩ := st
  rcases hz with ⟨hz, a, b, hTO⟩ | ⟨T, f, oT, hz, hT, r1, r2, r3, r4⟩
  · exact wpAny_pyNext_zip_end hh D hz hTI hTO h1 h2 hl1 hl2 hend fun h' hk => hQ h' hk
  · exact wpAny_pyNext_zip_end_held hh D hz hT hTI h1 h2 hl1 hl2 hend fun h' hk => hQ h' fun c o c1 _ c2 c3 e => hk c o c1 c2 c3 e
end
/-- the pairs that were laid -/
structure ZilG (xs ys : Array Value) (lo : Addr) (h : Heap) (as : List Addr) : Prop where
  rise : as.Pairwise (· < ·)
  above : ∀ a ∈ as, lo < a
  pairs : ∀ (j : Nat) (a : Addr), as[j]? = some a → ∃ x y, xs[j]? = some x ∧ ys[j]? = some y ∧ IsPair h a x y
theorem ZilG.there {xs ys : Array Value} {lo : Addr} {h : Heap} {as : List Addr} (g : ZilG xs ys lo h as) {a : Addr} (ha : a ∈ as) : a < h.objs.size := by
  obtain ⟨j, hj⟩ := List.mem_iff_getElem?.mp ha
  obtain ⟨_, _, _, _, e⟩ := g.pairs j a hj
  exact Heap.lt_size e
section
variable {prog : Program} {w : World} {A : Around} {E : Value → Shared → Prop} {s : Shared} {R : Result → Shared → Prop} {z TI TO i1 i2 l1 l2 S : Addr} {xs ys : Array Value}
theorem zil_loop (hh : A.handled = none) (D : ZipApart z TI TO i1 i2 l1 l2) (O : ZilOff z TI TO i1 i2 l1 l2 S) (hzS : z < S) (hTS : TO < S) (h1S : i1 < S) (h2S : i2 < S) (hn : min xs.size ys.size ≤ sizeLine) (res : Value) {h₁ : Heap}
    (hR : ∀ h' tk acc c as, (∀ b o, b ≠ S → b ≠ z → b ≠ TO → b ≠ i1 → b ≠ i2 → h₁.get? b = some o → h'.get? b = some o) → h'.get? S = some { cls := .type "list", dict := none, data := .seq acc c, slots := #[] } → as.length = min xs.size ys.size → ZilG xs ys S h' as →
      acc.toList = as.map Value.ref → R (.ok (.ret res)) { s with heap := h', toks := tk }) :
    ∀ (k i : Nat) (h : Heap) (tk c : Nat) (acc : Array Value) (as : List Addr), min xs.size ys.size - i = k → i ≤ min xs.size ys.size → ZilSt h z TI TO i1 i2 l1 l2 S i xs ys → (∀ b o, b ≠ S → b ≠ z → b ≠ TO → b ≠ i1 → b ≠ i2 → h₁.get? b = some o → h.get? b = some o) →
      h.get? S = some { cls := .type "list", dict := none, data := .seq acc c, slots := #[] } → acc.toList = as.map Value.ref → as.length = i → ZilG xs ys S h as →
      codeAny (model prog w) A (.builtin "list.extend.loop" ⟨[.ref S, .ref z, res], []⟩) R { s with heap := h, toks := tk } := by
  intro k
  induction k with
  | zero =>
    intro i h tk c acc as hk hi hst hkeep hS hacc hal hG
    have hin : i = min xs.size ys.size := by omega
    have hend : xs[i]? = none ∨ ys[i]? = none := by
      rcases Nat.le_total xs.size ys.size with q | q
      · exact .inl (Array.getElem?_eq_none (by omega))
      · exact .inr (Array.getElem?_eq_none (by omega))
    refine codeAny_builtin PySem.F.entry_extend_loop ?_
    rw [Around.under_plainId PySem.F.plain_extend_loop _]
    show wpAny _ A.in1 (pyNext (.ref z) >>= _) _ _ _
    refine wpAny_bind (zil_done (s := { s with heap := h, toks := tk }) (A := A.in1) hh D hst hend fun h' he => ?_)
    refine wpAny_pure (hR h' tk acc c as (fun b o h1 h2 h3 h4 h5 e => he b o h2 h3 h4 h5 (hkeep b o h1 h2 h3 h4 h5 e)) (he S _ (Ne.symm O.z) (Ne.symm O.TO) (Ne.symm O.i1) (Ne.symm O.i2) hS) (by omega) ⟨hG.rise, hG.above, fun j a hj => ?_⟩ hacc)
    obtain ⟨x, y, hx, hy, e3⟩ := hG.pairs j a hj
    have hb := hG.above a (List.mem_of_getElem? hj)
    exact ⟨x, y, hx, hy, he a _ (Nat.ne_of_gt (Nat.lt_trans hzS hb)) (Nat.ne_of_gt (Nat.lt_trans hTS hb)) (Nat.ne_of_gt (Nat.lt_trans h1S hb)) (Nat.ne_of_gt (Nat.lt_trans h2S hb)) e3⟩
  | succ k ih =>
    intro i h tk c acc as hk hi hst hkeep hS hacc hal hG
    have hix : i < xs.size := by omega
    have hiy : i < ys.size := by omega
    have ex := Array.getElem?_eq_getElem hix
    have ey := Array.getElem?_eq_getElem hiy
    have hsz : acc.size = i := by rw [← Array.length_toList, hacc, List.length_map, hal]
    refine codeAny_builtin PySem.F.entry_extend_loop ?_
    rw [Around.under_plainId PySem.F.plain_extend_loop _]
    show wpAny _ A.in1 (pyNext (.ref z) >>= _) _ _ _
    refine wpAny_bind (zil_item (s := { s with heap := h, toks := tk }) D hst (Heap.lt_size hS) ex ey fun h' hst' ht hz hkp => ?_)
    dsimp only at ht hz hkp ⊢
    have hS' := hkp S _ (Ne.symm O.z) (Ne.symm O.TO) (Ne.symm O.i1) (Ne.symm O.i2) hS
    have up : ∀ b o, b ≠ S → h'.get? b = some o → (h'.update S (Obj.mapSeq (·.push (Value.ref h.objs.size)))).get? b = some o := fun b o hb e => (Heap.get?_update_other _ _ (Ne.symm hb)).trans e
    have hSl : S < h.objs.size := Heap.lt_size hS
    show wpAny _ A.in1 (updateSeq S (·.push (Value.ref h.objs.size)) >>= _) _ _ _
    refine wpAny_bind ?_
    refine wpAny_updateSeq hS' rfl (wpAny_pure ⟨plainId_quiet PySem.F.plain_extend_loop _, ih (i + 1) _ tk _ (acc.push (Value.ref h.objs.size)) (as ++ [h.objs.size]) (by omega) (by omega) (hst'.keep O up)
      (fun b o h1 h2 h3 h4 h5 e => up b o h1 (hkp b o h2 h3 h4 h5 (hkeep b o h1 h2 h3 h4 h5 e))) (Heap.get?_update_self _ hS' rfl) (by rw [Array.toList_push, hacc, List.map_append]; rfl) (by rw [List.length_append, hal]; rfl) ⟨?_, ?_, ?_⟩⟩) (by rw [hsz]; omega) (by show (acc.push (Value.ref h.objs.size)).size ≤ sizeLine + 1; rw [Array.size_push, hsz]; omega)
    · refine List.pairwise_append.mpr ⟨hG.rise, List.pairwise_singleton _ _, fun a ha b hb => ?_⟩
      rw [List.mem_singleton.mp hb]
      exact hG.there ha
    · intro a ha
      rcases List.mem_append.mp ha with ha | ha
      · exact hG.above a ha
      · rw [List.mem_singleton.mp ha]; exact hSl
    · intro j b hj
      rcases Nat.lt_trichotomy j as.length with h1 | h1 | h1
      · rw [List.getElem?_append_left h1] at hj
        obtain ⟨x, y, hx, hy, e3⟩ := hG.pairs j b hj
        have hb := hG.above b (List.mem_of_getElem? hj)
        exact ⟨x, y, hx, hy, up b _ (Nat.ne_of_gt hb) (hkp b _ (Nat.ne_of_gt (Nat.lt_trans hzS hb)) (Nat.ne_of_gt (Nat.lt_trans hTS hb)) (Nat.ne_of_gt (Nat.lt_trans h1S hb)) (Nat.ne_of_gt (Nat.lt_trans h2S hb)) e3)⟩
      · subst h1
        have hb : h.objs.size = b := by simpa using hj
        subst hb
        exact ⟨_, _, by rw [hal]; exact ex, by rw [hal]; exact ey, up _ _ (Nat.ne_of_gt hSl) ht⟩
      · have hnone : (as ++ [h.objs.size])[j]? = none := List.getElem?_eq_none (by rw [List.length_append, List.length_singleton]; omega)
        rw [hnone] at hj; cases hj
end
/-- list(z), z a zip of two lists that no one has turned -/
theorem zil_call {prog : Program} {w : World} {A : Around} {E : Value → Shared → Prop} {s : Shared} {z TI TO i1 i2 l1 l2 : Addr} {xs ys : Array Value} {Q : Value → Shared → Prop} (hh : A.handled = none) (D : ZipApart z TI TO i1 i2 l1 l2)
    (hz : IsZip s.heap z TI TO .none) (hTI : IsPair s.heap TI (.ref i1) (.ref i2)) (hTO : ∃ a b, IsPair s.heap TO a b) (h1 : s.heap.IsListIter i1 l1 0) (h2 : s.heap.IsListIter i2 l2 0) (hl1 : s.heap.IsList l1 xs) (hl2 : s.heap.IsList l2 ys) (hn : min xs.size ys.size ≤ sizeLine)
    (hQ : ∀ h' tk acc c as, (∀ b o, b ≠ z → b ≠ TO → b ≠ i1 → b ≠ i2 → s.heap.get? b = some o → h'.get? b = some o) → h'.get? s.heap.objs.size = some { cls := .type "list", dict := none, data := .seq acc c, slots := #[] } → as.length = min xs.size ys.size → ZilG xs ys s.heap.objs.size h' as →
      acc.toList = as.map Value.ref → Q (.ref s.heap.objs.size) { s with heap := h', toks := tk }) :
    wpAny (model prog w) A (call (.type "list") [.ref z]) Q E s := by
  refine callType_codes (Q₁ := fun obj s₁ => obj = .ref s.heap.objs.size ∧ s₁ = { s with heap := s.heap.push { cls := .type "list", data := .seq #[] } }) PySem.F.called_list (PySem.F.typeCall_list_1 _) PySem.F.entry_list_init
    (code_list_new _ ⟨rfl, rfl⟩) fun obj s₁ h₁ => ?_
  obtain ⟨rfl, rfl⟩ := h₁
  have hS : (s.heap.push { cls := .type "list", data := .seq #[] }).get? s.heap.objs.size = some { cls := .type "list", data := .seq #[] } := Heap.get?_push_size _ rfl
  have zS := Heap.lt_size hz
  have TS := Heap.lt_size hTI
  have OS : TO < s.heap.objs.size := let ⟨_, _, e⟩ := hTO; Heap.lt_size e
  have S1 : i1 < s.heap.objs.size := let ⟨_, e, _⟩ := h1; Heap.lt_size e
  have S2 : i2 < s.heap.objs.size := let ⟨_, e, _⟩ := h2; Heap.lt_size e
  have L1 : l1 < s.heap.objs.size := let ⟨_, e, _⟩ := hl1; Heap.lt_size e
  have L2 : l2 < s.heap.objs.size := let ⟨_, e, _⟩ := hl2; Heap.lt_size e
  have O : ZilOff z TI TO i1 i2 l1 l2 s.heap.objs.size := ⟨Nat.ne_of_lt zS, Nat.ne_of_lt TS, Nat.ne_of_lt OS, Nat.ne_of_lt S1, Nat.ne_of_lt S2, Nat.ne_of_lt L1, Nat.ne_of_lt L2⟩
  refine ⟨⟨_, hS, rfl⟩, PySem.F.args_list_init_2 _ _, ?_⟩
  show wpAny _ A.in1.in1 (do let old ← Builtin.List.listItems (.ref s.heap.objs.size); Builtin.List.listUpdate (.ref s.heap.objs.size) (fun _ => #[]); letGo old.toList.reverse; Builtin.List.listExtendWith (.ref s.heap.objs.size) (.ref z) .none) _ _ _
  refine wpAny_bind ?_
  unfold Builtin.List.listItems
  refine wpAny_bind (wpAny_seqItems hS rfl (wpAny_pure ?_))
  show wpAny _ A.in1.in1 (updateSeq s.heap.objs.size (fun _ => #[]) >>= fun _ => letGo (#[] : Array Value).toList.reverse >>= fun _ => Builtin.List.listExtendWith (.ref s.heap.objs.size) (.ref z) .none) _ _ _
  refine wpAny_bind (wpAny_updateSeq hS rfl ?_)
  have hS2 := Heap.get?_update_self (Obj.mapSeq (fun _ => (#[] : Array Value))) hS rfl
  refine wpAny_bind (wpAny_letGo ?_)
  unfold Builtin.List.listExtendWith
  have up : ∀ (h : Heap) (f : Obj → Obj), (∀ b o, s.heap.get? b = some o → h.get? b = some o) → ∀ b o, s.heap.get? b = some o → (h.update s.heap.objs.size f).get? b = some o := fun h f q b o e =>
    (Heap.get?_update_other _ _ (Ne.symm (Nat.ne_of_lt (Heap.lt_size e)))).trans (q b o e)
  have k1 : ∀ b o, s.heap.get? b = some o → (s.heap.push { cls := .type "list", data := .seq #[] }).get? b = some o := fun b o e => Heap.get?_push_of_some _ e
  have k2 := up _ (Obj.mapSeq (fun _ => (#[] : Array Value))) k1
  refine wpAny_bind (wpAny_typeOf (T := "zip") ⟨_, k2 _ _ hz, rfl⟩ ?_)
  have q1 : Builtin.List.listSameRef (.ref s.heap.objs.size) (.ref z) = false := by simp [Builtin.List.listSameRef, Ne.symm O.z]
  have q2 : (Value.type "zip" == Value.type "list") = false := by decide
  have q3 : (Value.type "zip" == Value.type "tuple") = false := by decide
  simp only [q1, q2, q3, Bool.or_false, Bool.false_eq_true, if_false]
  refine wpAny_bind (wpAny_pyIter_zip (s := { s with heap := _ }) (k2 _ _ hz) ?_)
  refine wpAny_bind (wpAny_holding ?_)
  unfold Builtin.List.listLengthHint
  refine wpAny_bind (wpAny_specialOf (T := "zip") ⟨_, k2 _ _ hz, rfl⟩ zip_no_len ?_)
  show wpAny _ A.in1.in1 (specialOf (Value.ref z) (Str.ofString "__length_hint__") >>= _) _ _ _
  refine wpAny_bind (wpAny_specialOf (T := "zip") ⟨_, k2 _ _ hz, rfl⟩ zip_no_hint ?_)
  refine wpAny_pure ?_
  show wpAny _ A.in1.in1 (rule "list.extend.makes-room" >>= fun _ => Builtin.List.listTouch (.ref s.heap.objs.size) >>= fun _ =>
    again (.builtin "list.extend.loop" ⟨[.ref s.heap.objs.size, .ref z, .none], []⟩)) _ _ _
  refine wpAny_bind (wpAny_rule ?_)
  refine wpAny_bind ?_
  show wpAny _ A.in1.in1 (updateSeq s.heap.objs.size (·.push .none) >>= fun _ => updateSeq s.heap.objs.size (·.pop)) _ _ _
  refine wpAny_bind (wpAny_updateSeq hS2 rfl ?_)
  have hS3 := Heap.get?_update_self (Obj.mapSeq (·.push Value.none)) hS2 rfl
  refine wpAny_updateSeq (hz := by seq_fits) hS3 rfl ?_
  have hS4 := Heap.get?_update_self (Obj.mapSeq (·.pop)) hS3 rfl
  have k4 := up _ (Obj.mapSeq (·.pop)) (up _ (Obj.mapSeq (·.push Value.none)) k2)
  obtain ⟨ta, tb, hTO⟩ := hTO
  refine wpAny_pure ⟨plainId_quiet PySem.F.plain_extend_loop _, ?_⟩
  exact zil_loop (A := A.in1) (s := s) (h₁ := s.heap) (xs := xs) (ys := ys) hh D O zS OS S1 S2 hn .none (fun h' tk acc c as hk hS' hl hG hacc => ⟨rfl, hQ h' tk acc c as (fun b o b1 b2 b3 b4 e => hk b o (Nat.ne_of_lt (Heap.lt_size e)) b1 b2 b3 b4 e) hS' hl hG hacc⟩)
    (min xs.size ys.size) 0 _ _ _ #[] [] (Nat.sub_zero _) (Nat.zero_le _) ⟨k4 _ _ hTI, h1.at fun o e => k4 _ o e, h2.at fun o e => k4 _ o e, hl1.at fun o e => k4 _ o e, hl2.at fun o e => k4 _ o e, .inl ⟨k4 _ _ hz, ta, tb, k4 _ _ hTO⟩⟩
    (fun b o _ _ _ _ _ e => k4 b o e) hS4 rfl rfl ⟨List.Pairwise.nil, (fun _ ha => nomatch ha), fun j a hj => by simp at hj⟩
/-- pairs laid one behind the other -/
def growT : List (V × V) → Hp → (List V → Hp → Prop) → Prop
  | [], H, Q => Q [] H
  | p :: r, H, Q => ∀ q, H q = none → growT r (upd H q (.tup [p.1, p.2])) fun vs H' => Q (.ref q :: vs) H'
theorem grow_take {X : Cx} {pins : List (Addr × Obj)} {σ : L2.St} {s' : Shared} {sz : Nat} (base : ∀ b, sz ≤ b → ∀ H' : Hp, H' b = none → FpOk X pins H' b) :
    ∀ (ps : List (V × V)) (as : List Addr) (H : Hp) (Q : List V → Hp → Prop), Inv X pins σ H s' → as.length = ps.length → as.Pairwise (· < ·) → (∀ a ∈ as, sz ≤ a ∧ H a = none) →
      (∀ (j : Nat) (a : Addr) (p : V × V), as[j]? = some a → ps[j]? = some p → ∃ v w, RelV p.1 v ∧ RelV p.2 w ∧ IsPair s'.heap a v w) → growT ps H Q → ∃ H2, Inv X pins σ H2 s' ∧ Q (as.map V.ref) H2 ∧ ∀ b, b ∉ as → H2 b = H b
  | [], [], H, Q, I, _, _, _, _, h => ⟨H, I, h, fun _ _ => rfl⟩
  | [], _ :: _, _, _, _, hl, _, _, _, _ => by simp at hl
  | _ :: _, [], _, _, _, hl, _, _, _, _ => by simp at hl
  | p :: ps, a :: as, H, Q, I, hl, hp, ha, hpr, h => by
    obtain ⟨v, w, rv, rw', ip⟩ := hpr 0 a p rfl rfl
    obtain ⟨a1, a2⟩ := ha a (List.mem_cons_self ..)
    have I2 : Inv X pins σ (upd H a (.tup [p.1, p.2])) s' := I.take (t' := s'.toks) (h' := s'.heap) (fun b o _ e => e) (base a a1 H a2) ⟨by show 2 ≤ sizeLine; decide, [v, w], .cons rv (.cons rw' .nil), ⟨_, ip, rfl, _, rfl⟩⟩
    rw [List.pairwise_cons] at hp
    obtain ⟨H2, J, q, hk⟩ := grow_take base ps as _ _ I2 (by simpa using hl) hp.2 (fun b hb => ⟨(ha b (List.mem_cons_of_mem _ hb)).1, by rw [upd_ne (Nat.ne_of_gt (hp.1 b hb))]; exact (ha b (List.mem_cons_of_mem _ hb)).2⟩) (fun j b r hj hr => hpr (j + 1) b r (by simpa using hj) (by simpa using hr)) (h a a2)
    exact ⟨H2, J, q, fun b hb => by
      rw [hk b fun z => hb (List.mem_cons_of_mem _ z), upd_ne fun z => hb (by rw [z]; exact List.mem_cons_self ..)]⟩
theorem vals_refs : ∀ as : List Addr, Vals (as.map V.ref) (as.map Value.ref)
  | [] => .nil
  | _ :: as => .cons rfl (vals_refs as)
def tListZip (K : PySem.W.Frag) (ta : TA) : TE := fun σ H Q => ta σ H fun vs H1 => ∃ a b xs ys, vs = [.ref a, .ref b] ∧ SqA K false H1 a xs ∧ SqA K false H1 b ys ∧ (xs.zip ys).length ≤ sizeLine ∧ growT (xs.zip ys) H1 fun us H2 => ∀ q, H2 q = none → Q (.ref q) (upd H2 q (.lst us))
theorem pe_listZip {X : Cx} {e e2 : Expr} {ta : TA} {p pos p2 pos2 : Pos} (hc : X.calm = true) (hg : Gl X "list") (hm : X.mg "list" = none) (hgz : Gl X "zip") (hmz : X.mg "zip" = none) (ha : PA X [e, e2] ta)
    (hs : starEach [e, e2] X.env = (false, eval e X.env) :: starEach [e2] X.env := by rfl) (hpl : (backTo pos2 (starEach [e2] X.env)).any (·.1) = false := by rfl)
    (na : starEach [.Call (.Name "zip" p2) [e, e2] [] pos2] X.env = (false, eval (.Call (.Name "zip" p2) [e, e2] [] pos2) X.env) :: starEach [] X.env := by rfl) :
    PE X (.Call (.Name "list" p) [.Call (.Name "zip" p2) [e, e2] [] pos2] [] pos) (tListZip X.K ta) := by
  refine ⟨fun pins s σ H Q I h => ?_⟩
  have inner : wpAny (model X.prog X.w) X.A (eval (.Call (.Name "zip" p2) [e, e2] [] pos2) X.env) (fun x s' => ∃ (s1 : Shared) (h' : Heap) (H1 : Hp) (a b : Addr) (xs ys : List V) (its its2 : List Value), x = .ref (s1.heap.objs.size + 4) ∧ s' = { s1 with heap := h' } ∧ Inv X pins σ H1 s1 ∧ Vals xs its ∧ Vals ys its2 ∧
      s1.heap.IsList a its.toArray ∧ s1.heap.IsList b its2.toArray ∧ IsZip h' (s1.heap.objs.size + 4) (s1.heap.objs.size + 2) (s1.heap.objs.size + 3) .none ∧ IsPair h' (s1.heap.objs.size + 2) (.ref s1.heap.objs.size) (.ref (s1.heap.objs.size + 1)) ∧
      IsPair h' (s1.heap.objs.size + 3) .none .none ∧ h'.IsListIter s1.heap.objs.size a 0 ∧ h'.IsListIter (s1.heap.objs.size + 1) b 0 ∧ h'.objs.size = s1.heap.objs.size + 5 ∧ (∀ c o, s1.heap.get? c = some o → h'.get? c = some o) ∧
      (xs.zip ys).length ≤ sizeLine ∧ growT (xs.zip ys) H1 fun us H2 => ∀ q, H2 q = none → Q (.ref q) (upd H2 q (.lst us))) X.xe s := by
    refine Call_ (ld_blt I hgz hmz PyProof.Rows.boot_zip (PyProof.Rows.callWith_type1 (thn (ha.run pos2 pins s σ H _ I h) fun us s1 ⟨vs, H1, I1, r1, q1⟩ => ?_) hs hpl))
    obtain ⟨a, b, xs, ys, ex, hqx, hqy, hl, q⟩ := q1
    subst ex
    cases r1 with
    | cons r rr =>
      cases rr with
      | cons r' rr =>
        cases rr
        cases r
        cases r'
        obtain ⟨its, rv, p1⟩ := inv_A I1 hqx
        obtain ⟨its2, rv2, p2⟩ := inv_A I1 hqy
        exact call_zipM p1 p2 fun h' hz hTI hTO h1 h2 hsz hk => ⟨s1, h', H1, a, b, xs, ys, its, its2, rfl, rfl, I1, rv, rv2, p1, p2, hz, hTI, hTO, h1, h2, hsz, hk, hl, q⟩
  refine Call_ (ld_blt I hg hm boot_list (PyProof.Rows.callWith_type1 (args_cons (thn inner fun x s2 hx => args_nil ?_) na) na))
  obtain ⟨s1, h', H1, a, b, xs, ys, its, its2, rfl, rfl, I1, rv, rv2, p1, p2, hz, hTI, hTO, h1, h2, hsz, hk, hl, q⟩ := hx
  have n1 := rv.length
  have n2 := rv2.length
  have I2 : Inv X pins σ H1 { s1 with heap := h' } := I1.kept (t' := s1.toks) hk
  have la : a < s1.heap.objs.size := let ⟨_, e, _⟩ := p1; Heap.lt_size e
  have lb : b < s1.heap.objs.size := let ⟨_, e, _⟩ := p2; Heap.lt_size e
  have base : ∀ c, s1.heap.objs.size ≤ c → ∀ H' : Hp, H' c = none → FpOk X pins H' c := fun c hc' H' hn => I1.fpOk hc' hn
  have mn : min its.toArray.size its2.toArray.size = (xs.zip ys).length := by rw [List.length_zip, List.size_toArray, List.size_toArray]; omega
  refine zil_call (s := { s1 with heap := h' }) (xs := its.toArray) (ys := its2.toArray) (I1.ok.hd hc) (PySem.W.ktu_apart s1.heap.objs.size a b la lb) hz hTI ⟨_, _, hTO⟩ h1 h2 (p1.at fun o e => hk _ o e) (p2.at fun o e => hk _ o e) (by rw [mn]; exact hl) fun h3 tk acc c as hk3 hS hal hG hacc => ?_
  dsimp only at hS hG hk3 ⊢
  rw [hsz] at hS hG ⊢
  have I3 : Inv X pins σ H1 { s1 with heap := h3, toks := tk } := Inv.turnedL (s := { s1 with heap := h' }) (h' := h3) (t' := tk) I2 (ch := [s1.heap.objs.size + 4, s1.heap.objs.size + 3, s1.heap.objs.size, s1.heap.objs.size + 1]) (fun d o hb e => hk3 d o (fun z => hb (by simp [z])) (fun z => hb (by simp [z])) (fun z => hb (by simp [z])) (fun z => hb (by simp [z])) e) (fun d hd => by
    have e' : d = s1.heap.objs.size + 4 ∨ d = s1.heap.objs.size + 3 ∨ d = s1.heap.objs.size ∨ d = s1.heap.objs.size + 1 := by simpa using hd
    have hle : s1.heap.objs.size ≤ d := by
      rcases e' with z | z | z | z
      · rw [z]; exact Nat.le_add_right _ _
      · rw [z]; exact Nat.le_add_right _ _
      · rw [z]; exact Nat.le_refl _
      · rw [z]; exact Nat.le_add_right _ _
    exact I1.fpOk hle (I1.hok.fresh hle))
  obtain ⟨H2, J, q2, hkH⟩ := grow_take base (xs.zip ys) as H1 _ I3 (by rw [hal, mn]) hG.rise (fun d hd => by
      have := hG.above d hd
      exact ⟨Nat.le_of_lt (Nat.lt_of_le_of_lt (Nat.le_add_right _ _) this), I1.hok.fresh (Nat.le_of_lt (Nat.lt_of_le_of_lt (Nat.le_add_right _ _) this))⟩) (fun j d r hj hr => by
      obtain ⟨x, y, hx, hy, ip⟩ := hG.pairs j d hj
      rw [List.getElem?_zip_eq_some] at hr
      obtain ⟨w1, hw1, rw1⟩ := rv.get hr.1
      obtain ⟨w2, hw2, rw2⟩ := rv2.get hr.2
      have q1 : w1 = x := Option.some.inj (hw1.symm.trans (by simpa using hx))
      have q2 : w2 = y := Option.some.inj (hw2.symm.trans (by simpa using hy))
      subst q1 q2
      exact ⟨_, _, rw1, rw2, ip⟩) q
  have hSn : s1.heap.objs.size + 5 ∉ as := fun z => Nat.lt_irrefl _ (hG.above _ z)
  have hS0 : H2 (s1.heap.objs.size + 5) = none := by rw [hkH _ hSn]; exact I1.hok.fresh (Nat.le_add_right _ _)
  refine ⟨.ref (s1.heap.objs.size + 5), upd H2 (s1.heap.objs.size + 5) (.lst (as.map V.ref)), J.take (t' := tk) (fun _ _ _ e => e) (base _ (Nat.le_add_right _ _) H2 hS0) ⟨?_, as.map Value.ref, c, vals_refs as, ?_⟩, rfl, q2 _ hS0⟩
  · rw [List.length_map, hal, mn]; exact hl
  · rw [← hacc, Array.toArray_toList]; exact hS
end DL

namespace DL
open PySem PySem.Spec PyProof.Rows L2
/-! ### walks -/
section
variable {X : Cx} {K : PySem.W.Frag} {η μ : List Addr} {S : DStore} {H : Hp} {tg : Expr}
theorem it_end {pins : List (Addr × Obj)} {σ : L2.St} {H1 : Hp} {s1 : Shared} (I1 : Inv X pins σ H1 s1) : ∀ b ∈ [s1.heap.objs.size], FpOk X pins H1 b := by
  intro b hb
  rw [List.mem_singleton.mp hb]
  exact I1.fpOk (Nat.le_refl _) (I1.hok.fresh (Nat.le_refl _))
theorem it_lst {pins : List (Addr × Obj)} {σ : L2.St} {H1 : Hp} {s1 : Shared} {R : It → Hp → Prop} {E : Value → Shared → Prop} {a : Addr} {xs : List V} (I1 : Inv X pins σ H1 s1) (hq : SqL X.K H1 a xs) (q : R (Itl X.K a) H1) :
    wpAny (model X.prog X.w) X.A (pyIter (.ref a)) (PIE X pins σ tg R) E s1 := by
  obtain ⟨its, rv, p, hz⟩ := I1.list hq
  refine wpAny_pyIter_list p.isList ⟨_, [s1.heap.objs.size], _, _, H1, rfl, ?_, turn_list a _, ?_, it_end I1, q⟩
  · exact I1.kept (t' := s1.toks) fun _ _ e => Heap.get?_push_of_some _ e
  · exact ⟨_, Heap.get?_push_size _ rfl, rfl, rfl⟩
theorem it_tup {pins : List (Addr × Obj)} {σ : L2.St} {H1 : Hp} {s1 : Shared} {R : It → Hp → Prop} {E : Value → Shared → Prop} {a : Addr} {xs : List V} (I1 : Inv X pins σ H1 s1) (hq : SqT X.K H1 a xs) (q : R (Itt X.K a) H1) :
    wpAny (model X.prog X.w) X.A (pyIter (.ref a)) (PIE X pins σ tg R) E s1 := by
  obtain ⟨its, rv, p, hz⟩ := I1.tuple hq
  refine wpAny_pyIter_tuple (show s1.heap.IsTuple a its.toArray from p) ⟨_, [s1.heap.objs.size], _, _, H1, rfl, ?_, turn_tuple a _, ?_, it_end I1, q⟩
  · exact I1.kept (t' := s1.toks) fun _ _ e => Heap.get?_push_of_some _ e
  · exact ⟨_, Heap.get?_push_size _ rfl, rfl, rfl⟩
/-- over a list or a tuple -/
theorem pi_seq {l : Expr} {tl : TE} (hl : PE X l tl) : PI X tg l (fun σ H R => tl σ H fun x H1 => ∃ a xs, x = .ref a ∧ ((SqL X.K H1 a xs ∧ R (Itl X.K a) H1) ∨ (SqT X.K H1 a xs ∧ R (Itt X.K a) H1))) := by
  constructor
  intro pins s σ H R I h
  refine thn (hl.run pins s σ H _ I h) fun v s1 out => ?_
  obtain ⟨x, H1, I1, r1, a, xs, rfl, hq⟩ := out
  cases r1
  rcases hq with ⟨h1, q⟩ | ⟨h1, q⟩
  · exact it_lst I1 h1 q
  · exact it_tup I1 h1 q
theorem jok_list {a : Addr} {items : List D} {I : DStore → Prop} (h : ∀ η' μ' S' H', Ext η μ H η' μ' H' → Rp K η' μ' S' H' → I S' → ∃ vs, SqL K H' a vs ∧ RVs K H' η' μ' items vs) : JOk K η μ H (Itl K a) items I := by
  intro i η' μ' S' H' e r g
  obtain ⟨vs, hs, q⟩ := h η' μ' S' H' e r g
  refine ⟨fun hi => ?_, fun hi _ => ⟨vs, hs, by rw [← q.length]; exact hi⟩⟩
  obtain ⟨v, hv, rv⟩ := q.get (List.getElem?_eq_getElem hi)
  refine ⟨⟨vs, v, hs, hv⟩, fun x H'' hy => ?_⟩
  obtain ⟨rfl, f⟩ := hy
  have : x = v := Option.some.inj ((f vs hs).symm.trans hv)
  subst this
  exact ⟨.refl, r, _, List.getElem?_eq_getElem hi, rv⟩
theorem jok_tup {a : Addr} {items : List D} {I : DStore → Prop} (h : ∀ η' μ' S' H', Ext η μ H η' μ' H' → Rp K η' μ' S' H' → I S' → ∃ vs, SqT K H' a vs ∧ RVs K H' η' μ' items vs) : JOk K η μ H (Itt K a) items I := by
  intro i η' μ' S' H' e r g
  obtain ⟨vs, hs, q⟩ := h η' μ' S' H' e r g
  refine ⟨fun hi => ?_, fun hi _ => ⟨vs, hs, by rw [← q.length]; exact hi⟩⟩
  obtain ⟨v, hv, rv⟩ := q.get (List.getElem?_eq_getElem hi)
  refine ⟨⟨vs, v, hs, hv⟩, fun x H'' hy => ?_⟩
  obtain ⟨rfl, f⟩ := hy
  have : x = v := Option.some.inj ((f vs hs).symm.trans hv)
  subst this
  exact ⟨.refl, r, _, List.getElem?_eq_getElem hi, rv⟩
theorem keyD_rv1 (k : L2.Key) : RV K H η μ (keyD k) (kV k) := by
  cases k with
  | inl i => exact .int i
  | inr x => exact .str x
theorem jok_keys {d : Addr} {o : Obj} {kvs : List (List L2.Key × D)} {vs : List (List L2.Key × V)} (h : H d = some (.frz o (.dT vs))) (q : RKs K H η μ kvs vs) : JOk K η μ H (Itkt d o vs) (kvs.map fun p => D.tup (p.1.map keyD)) (fun _ => True) := by
  intro i η' μ' S' H' e r _
  have hd := e.frz _ _ _ h
  have hl := q.length
  refine ⟨fun hi => ?_, fun h1 h2 => ?_⟩
  · rw [List.length_map] at hi
    refine ⟨⟨hd, by omega⟩, fun x H'' hy => ?_⟩
    obtain ⟨rfl, k, v, p, h1, rfl, h3⟩ := hy
    refine ⟨.refl, r, D.tup (k.map keyD), ?_, .tup (.inl (.inl h3)) (keyD_rv k)⟩
    have hk := congrArg (fun l => l[i]?) q.keys
    simp only [List.getElem?_map, h1, Option.map_some, Option.map_eq_some_iff] at hk
    obtain ⟨⟨k', d'⟩, h4, h5⟩ := hk
    simp only at h5
    subst h5
    rw [List.getElem?_map, h4]; rfl
  · rw [List.length_map] at h1
    exact ⟨hd, by omega⟩
theorem jok_items {d : Addr} {o : Obj} {kvs : List (List L2.Key × D)} {vs : List (List L2.Key × V)} (h : H d = some (.frz o (.dT vs))) (q : RKs K H η μ kvs vs) : JOk K η μ H (Itit d o vs) (kvs.map fun p => D.tup [D.tup (p.1.map keyD), p.2]) (fun _ => True) := by
  intro i η' μ' S' H' e r _
  have hd := e.frz _ _ _ h
  have hl := q.length
  refine ⟨fun hi => ?_, fun h1 h2 => ?_⟩
  · rw [List.length_map] at hi
    refine ⟨⟨hd, by omega⟩, fun x H'' hy => ?_⟩
    obtain ⟨T, k, v, p, h1, h3, rfl, hT, rfl⟩ := hy
    have g := grow_new (o := .tup [.ref p, v]) r hT
    obtain ⟨dv, h4, rv⟩ := (q.ext e).get h1
    refine ⟨g, rp_new r hT, D.tup [D.tup (k.map keyD), dv], ?_, ?_⟩
    · rw [List.getElem?_map, h4]; rfl
    · exact .tup (.inl (.inl upd_same)) (.cons (.tup (.inl (.inl (g.tup _ _ h3))) (keyD_rv k)) (.cons (rv.ext g.ext) .nil))
  · rw [List.length_map] at h1
    exact ⟨hd, by omega⟩
theorem jok_kkeys {d : Addr} {o : Obj} {kvs : List (L2.Key × D)} {vs : List (L2.Key × V)} (h : H d = some (.frz o (.dK vs))) (q : RKs K H η μ kvs vs) : JOk K η μ H (Itk d o vs) (kvs.map fun p => keyD p.1) (fun _ => True) := by
  intro i η' μ' S' H' e r _
  have hd := e.frz _ _ _ h
  have hl := q.length
  refine ⟨fun hi => ?_, fun h1 h2 => ?_⟩
  · rw [List.length_map] at hi
    refine ⟨⟨hd, by omega⟩, fun x H'' hy => ?_⟩
    obtain ⟨rfl, k, v, h1, rfl⟩ := hy
    obtain ⟨dv, h4, rv⟩ := q.get h1
    refine ⟨.refl, r, keyD k, ?_, keyD_rv1 k⟩
    rw [List.getElem?_map, h4]; rfl
  · rw [List.length_map] at h1
    exact ⟨hd, by omega⟩
theorem jok_kitems {d : Addr} {o : Obj} {kvs : List (L2.Key × D)} {vs : List (L2.Key × V)} (h : H d = some (.frz o (.dK vs))) (q : RKs K H η μ kvs vs) : JOk K η μ H (Iti d o vs) (kvs.map fun p => D.tup [keyD p.1, p.2]) (fun _ => True) := by
  intro i η' μ' S' H' e r _
  have hd := e.frz _ _ _ h
  have hl := q.length
  refine ⟨fun hi => ?_, fun h1 h2 => ?_⟩
  · rw [List.length_map] at hi
    refine ⟨⟨hd, by omega⟩, fun x H'' hy => ?_⟩
    obtain ⟨T, k, v, h1, rfl, hT, rfl⟩ := hy
    have g := grow_new (o := .tup [kV k, v]) r hT
    obtain ⟨dv, h4, rv⟩ := (q.ext e).get h1
    refine ⟨g, rp_new r hT, D.tup [keyD k, dv], ?_, ?_⟩
    · rw [List.getElem?_map, h4]; rfl
    · exact .tup (.inl (.inl upd_same)) (.cons (keyD_rv1 k) (.cons (rv.ext g.ext) .nil))
  · rw [List.length_map] at h1
    exact ⟨hd, by omega⟩
theorem jok_range {lo hi : Int} {n : Nat} (hn : n = (hi - lo).toNat) : JOk K η μ H (Itr lo n) (rangeD lo hi) (fun _ => True) := by
  intro i η' μ' S' H' e r g
  have hl : (rangeD lo hi).length = n := by simp [rangeD, hn]
  refine ⟨fun h => ⟨by show i < n; omega, fun x H'' hy => ?_⟩, fun h _ => by show n ≤ i; omega⟩
  obtain ⟨rfl, rfl⟩ := hy
  refine ⟨.refl, r, _, ?_, .int _⟩
  unfold rangeD
  rw [List.getElem?_map, List.getElem?_range (by omega)]
  rfl
theorem seq_it (r : Rp K η μ S H) {d : D} {v : V} {R : RI} {RJ : It → Hp → Prop} (rv : RV K H η μ d v) (h : itD S d R) (hJ : ∀ J items I, R items I S → JOk K η μ H J items I → RJ J H) :
    ∃ a xs, v = .ref a ∧ ((SqL K H a xs ∧ RJ (Itl K a) H) ∨ (SqT K H a xs ∧ RJ (Itt K a) H)) := by
  cases rv with
  | tup h1 q1 => exact ⟨_, _, rfl, .inr ⟨h1, hJ _ _ _ h (jok_tup fun η' μ' S' H' e _ _ => ⟨_, SqT.ext e h1, q1.ext e⟩)⟩⟩
  | @lst a xs ds hm hn h1 q1 => exact ⟨_, _, rfl, .inl ⟨.inl (.inl h1), hJ _ _ _ h (jok_list fun η' μ' S' H' e _ _ => ⟨_, .inl (.inl (e.keep _ _ h1 hm hn).1), q1.ext e⟩)⟩⟩
  | scr h1 q1 =>
    have hs : ∀ {η' μ' H'}, Ext η μ H η' μ' H' → SqL K H' _ _ := fun e => h1.elim (fun ⟨o, z⟩ => .inl (.inr ⟨o, e.frz _ _ _ z⟩)) fun z => z _
    exact ⟨_, _, rfl, .inl ⟨hs (Ext.refl (η := η) (μ := μ)), hJ _ _ _ h (jok_list fun η' μ' S' H' e _ _ => ⟨_, hs e, q1.ext e⟩)⟩⟩
  | @ref n a h1 =>
    obtain ⟨xs, e1, h⟩ := h
    obtain ⟨b, hb, vs, e2, q2⟩ := r.cell n _ e1
    rw [h1] at hb; cases hb
    refine ⟨_, _, rfl, .inl ⟨.inl (.inl e2), hJ _ _ _ h (jok_list fun η' μ' S' H' e r' g => ?_)⟩⟩
    obtain ⟨c, hc, ws, e3, q3⟩ := r'.cell n _ g
    obtain ⟨m, rfl⟩ := e.pre
    rw [List.getElem?_append_left (List.getElem?_eq_some_iff.mp h1).1, h1] at hc
    cases hc
    exact ⟨ws, .inl (.inl e3), q3⟩
  | _ => exact h.elim

theorem zip_get {xs ys : List D} {i : Nat} {x y : D} (hx : xs[i]? = some x) (hy : ys[i]? = some y) : (zipD xs ys)[i]? = some (.tup [x, y]) := by
  have : (xs.zip ys)[i]? = some (x, y) := List.getElem?_zip_eq_some.mpr ⟨hx, hy⟩
  simp only [zipD, List.getElem?_map, this, Option.map_some]
theorem zip_len {xs ys : List D} : (zipD xs ys).length = min xs.length ys.length := by simp [zipD]
theorem enum_get {xs : List D} {i : Nat} {x : D} (hx : xs[i]? = some x) : (enumD xs)[i]? = some (.tup [.int i, x]) := by
  simp [enumD, List.getElem?_map, List.getElem?_zipIdx, hx]
theorem enum_len {xs : List D} : (enumD xs).length = xs.length := by simp [enumD]
theorem jok_zipM {k1 k2 : Bool} {a b : Addr} {xs ys : List D} {I : DStore → Prop} (h : ∀ η' μ' S' H', Ext η μ H η' μ' H' → Rp K η' μ' S' H' → I S' → ∃ vs ws, SqA K k1 H' a vs ∧ SqA K k2 H' b ws ∧ RVs K H' η' μ' xs vs ∧ RVs K H' η' μ' ys ws) : JOk K η μ H (ItzM K k1 k2 a b) (zipD xs ys) I := by
  intro i η' μ' S' H' e r g
  obtain ⟨vs, ws, h1, h2, q1, q2⟩ := h η' μ' S' H' e r g
  have l1 := q1.length
  have l2 := q2.length
  rw [zip_len]
  refine ⟨fun hi => ?_, fun hi hi' => ⟨vs, ws, h1, h2, by omega, by omega, by omega⟩⟩
  have hix : i < xs.length := by omega
  have hiy : i < ys.length := by omega
  obtain ⟨v, hv, rv⟩ := q1.get (List.getElem?_eq_getElem hix)
  obtain ⟨w, hw, rw'⟩ := q2.get (List.getElem?_eq_getElem hiy)
  refine ⟨⟨vs, ws, v, w, h1, h2, hv, hw⟩, fun x H'' hy => ?_⟩
  obtain ⟨T, v2, w2, rfl, hT, rfl, f1, f2⟩ := hy
  have e1 : v2 = v := Option.some.inj ((f1 vs h1).symm.trans hv)
  have e2 : w2 = w := Option.some.inj ((f2 ws h2).symm.trans hw)
  subst e1 e2
  exact ⟨grow_new r hT, rp_new r hT, _, zip_get (List.getElem?_eq_getElem hix) (List.getElem?_eq_getElem hiy), rv_new_tup r hT (.cons rv (.cons rw' .nil))⟩
theorem jok_enum {a : Addr} {xs : List D} {I : DStore → Prop} (h : ∀ η' μ' S' H', Ext η μ H η' μ' H' → Rp K η' μ' S' H' → I S' → ∃ vs, SqL K H' a vs ∧ RVs K H' η' μ' xs vs) : JOk K η μ H (Ite K a) (enumD xs) I := by
  intro i η' μ' S' H' e r g
  obtain ⟨vs, h1, q1⟩ := h η' μ' S' H' e r g
  have l1 := q1.length
  rw [enum_len]
  refine ⟨fun hi => ?_, fun hi _ => ⟨vs, h1, by omega⟩⟩
  obtain ⟨v, hv, rv⟩ := q1.get (List.getElem?_eq_getElem hi)
  refine ⟨⟨vs, v, h1, hv⟩, fun x H'' hy => ?_⟩
  obtain ⟨T, v2, rfl, hT, rfl, f1⟩ := hy
  have e1 : v2 = v := Option.some.inj ((f1 vs h1).symm.trans hv)
  subst e1
  exact ⟨grow_new r hT, rp_new r hT, _, enum_get (List.getElem?_eq_getElem hi), rv_new_tup r hT (.cons (.int _) (.cons rv .nil))⟩
theorem jok_rangeC {lo c : Int} {n : Nat} : JOk K η μ H (Itc lo c n) (range3D lo c n) (fun _ => True) := by
  intro i η' μ' S' H' e r g
  have hl : (range3D lo c n).length = n := by simp [range3D]
  refine ⟨fun h => ⟨by show i < n; omega, fun x H'' hy => ?_⟩, fun h _ => by show n ≤ i; omega⟩
  obtain ⟨rfl, rfl⟩ := hy
  refine ⟨.refl, r, _, ?_, .int _⟩
  unfold range3D
  rw [List.getElem?_map, List.getElem?_range (by omega)]
  rfl
theorem sqA_of (r : Rp K η μ S H) {x : D} {v : V} {xs : List D} (rx : RV K H η μ x v) (e : tlOf S x = some xs) : ∃ k a vs, v = .ref a ∧ SqA K k H a vs ∧ RVs K H η μ xs vs ∧
    ∀ η' μ' S' H', Ext η μ H η' μ' H' → Rp K η' μ' S' H' → tlOf S' x = some xs → ∃ vs, SqA K k H' a vs ∧ RVs K H' η' μ' xs vs := by
  by_cases hx : ∃ ys, x = .tup ys
  · obtain ⟨ys, rfl⟩ := hx
    simp only [tlOf, Option.some.injEq] at e
    subst e
    cases rx with
    | tup h1 q1 => exact ⟨true, _, _, rfl, h1, q1, fun η' μ' S' H' e _ _ => ⟨_, SqT.ext e h1, q1.ext e⟩⟩
  · have et : ∀ S', tlOf S' x = lstOf S' x := fun S' => by
      cases x <;> first | rfl | exact absurd ⟨_, rfl⟩ hx
    rw [et] at e
    obtain ⟨a, vs, rfl, ha, qa⟩ := lst_of r rx e
    refine ⟨false, a, vs, rfl, .inl (.inl ha), qa, fun η' μ' S' H' e' r' g => ?_⟩
    rw [et] at g
    obtain ⟨a', vs', ea, ha', qa'⟩ := lst_of r' (rx.ext e') g
    cases ea
    exact ⟨vs', .inl (.inl ha'), qa'⟩
theorem zip_it (r : Rp K η μ S H) {x y : D} {v w : V} {R : RI} {RJ : It → Hp → Prop} (rx : RV K H η μ x v) (ry : RV K H η μ y w) (h : zipP S x y R) (hJ : ∀ J items I, R items I S → JOk K η μ H J items I → RJ J H) :
    ∃ a b k1 k2 xs ys, [v, w] = [V.ref a, V.ref b] ∧ SqA K k1 H a xs ∧ SqA K k2 H b ys ∧ RJ (ItzM K k1 k2 a b) H := by
  have h' : ∃ xs ys I, tlOf S x = some xs ∧ tlOf S y = some ys ∧ R (zipD xs ys) I S ∧ ∀ S', I S' → tlOf S' x = some xs ∧ tlOf S' y = some ys := by
    unfold zipP at h
    split at h
    · exact ⟨_, _, _, rfl, rfl, h, fun _ _ => ⟨rfl, rfl⟩⟩
    · obtain ⟨xs, ys, e1, e2, h⟩ := h
      exact ⟨xs, ys, _, e1, e2, h, fun _ z => z⟩
  obtain ⟨xs, ys, I, e1, e2, hI, hk⟩ := h'
  obtain ⟨k1, a, vs, rfl, ha, qa, fa⟩ := sqA_of r rx e1
  obtain ⟨k2, b, ws, rfl, hb, qb, fb⟩ := sqA_of r ry e2
  refine ⟨a, b, k1, k2, vs, ws, rfl, ha, hb, hJ _ _ _ hI (jok_zipM fun η' μ' S' H' e r' g => ?_)⟩
  obtain ⟨g1, g2⟩ := hk S' g
  obtain ⟨vs', h1, q1⟩ := fa η' μ' S' H' e r' g1
  obtain ⟨ws', h2, q2⟩ := fb η' μ' S' H' e r' g2
  exact ⟨vs', ws', h1, h2, q1, q2⟩
theorem zip3_get {xs ys zs : List D} {i : Nat} {x y z : D} (hx : xs[i]? = some x) (hy : ys[i]? = some y) (hz : zs[i]? = some z) : (zip3D xs ys zs)[i]? = some (.tup [x, y, z]) := by
  have h1 : (xs.zip ys)[i]? = some (x, y) := List.getElem?_zip_eq_some.mpr ⟨hx, hy⟩
  have h2 : ((xs.zip ys).zip zs)[i]? = some ((x, y), z) := List.getElem?_zip_eq_some.mpr ⟨h1, hz⟩
  simp only [zip3D, List.getElem?_map, h2, Option.map_some]
theorem zip3_len {xs ys zs : List D} : (zip3D xs ys zs).length = min (min xs.length ys.length) zs.length := by simp [zip3D]
theorem jok_zipM3 {k1 k2 k3 : Bool} {a b c : Addr} {xs ys zs : List D} {I : DStore → Prop} (h : ∀ η' μ' S' H', Ext η μ H η' μ' H' → Rp K η' μ' S' H' → I S' → ∃ vs ws us, SqA K k1 H' a vs ∧ SqA K k2 H' b ws ∧ SqA K k3 H' c us ∧ RVs K H' η' μ' xs vs ∧ RVs K H' η' μ' ys ws ∧ RVs K H' η' μ' zs us) : JOk K η μ H (ItzM3 K k1 k2 k3 a b c) (zip3D xs ys zs) I := by
  intro i η' μ' S' H' e r g
  obtain ⟨vs, ws, us, h1, h2, h3, q1, q2, q3⟩ := h η' μ' S' H' e r g
  have l1 := q1.length
  have l2 := q2.length
  have l3 := q3.length
  rw [zip3_len]
  refine ⟨fun hi => ?_, fun hi hi' => ⟨vs, ws, us, h1, h2, h3, by omega, by omega, by omega, by omega⟩⟩
  have hix : i < xs.length := by omega
  have hiy : i < ys.length := by omega
  have hiz : i < zs.length := by omega
  obtain ⟨v, hv, rv⟩ := q1.get (List.getElem?_eq_getElem hix)
  obtain ⟨w, hw, rw'⟩ := q2.get (List.getElem?_eq_getElem hiy)
  obtain ⟨u, hu, ru⟩ := q3.get (List.getElem?_eq_getElem hiz)
  refine ⟨⟨vs, ws, us, v, w, u, h1, h2, h3, hv, hw, hu⟩, fun x H'' hy => ?_⟩
  obtain ⟨T, v2, w2, u2, rfl, hT, rfl, f1, f2, f3⟩ := hy
  have e1 : v2 = v := Option.some.inj ((f1 vs h1).symm.trans hv)
  have e2 : w2 = w := Option.some.inj ((f2 ws h2).symm.trans hw)
  have e3 : u2 = u := Option.some.inj ((f3 us h3).symm.trans hu)
  subst e1 e2 e3
  exact ⟨grow_new r hT, rp_new r hT, _, zip3_get (List.getElem?_eq_getElem hix) (List.getElem?_eq_getElem hiy) (List.getElem?_eq_getElem hiz), rv_new_tup r hT (.cons rv (.cons rw' (.cons ru .nil)))⟩
theorem zip3_it (r : Rp K η μ S H) {x y z : D} {v w u : V} {R : RI} {RJ : It → Hp → Prop} (rx : RV K H η μ x v) (ry : RV K H η μ y w) (rz : RV K H η μ z u) (h : zip3P S x y z R) (hJ : ∀ J items I, R items I S → JOk K η μ H J items I → RJ J H) :
    ∃ a b c k1 k2 k3 xs ys zs, [v, w, u] = [V.ref a, V.ref b, V.ref c] ∧ SqA K k1 H a xs ∧ SqA K k2 H b ys ∧ SqA K k3 H c zs ∧ RJ (ItzM3 K k1 k2 k3 a b c) H := by
  obtain ⟨xs, ys, zs, e1, e2, e3, hI⟩ := h
  obtain ⟨k1, a, vs, rfl, ha, qa, fa⟩ := sqA_of r rx e1
  obtain ⟨k2, b, ws, rfl, hb, qb, fb⟩ := sqA_of r ry e2
  obtain ⟨k3, c, us, rfl, hc, qc, fc⟩ := sqA_of r rz e3
  refine ⟨a, b, c, k1, k2, k3, vs, ws, us, rfl, ha, hb, hc, hJ _ _ _ hI (jok_zipM3 fun η' μ' S' H' e r' g => ?_)⟩
  obtain ⟨g1, g2, g3⟩ := g
  obtain ⟨vs', h1, q1⟩ := fa η' μ' S' H' e r' g1
  obtain ⟨ws', h2, q2⟩ := fb η' μ' S' H' e r' g2
  obtain ⟨us', h3, q3⟩ := fc η' μ' S' H' e r' g3
  exact ⟨vs', ws', us', h1, h2, h3, q1, q2, q3⟩
theorem jok_enumT {a : Addr} {xs : List D} {I : DStore → Prop} (h : ∀ η' μ' S' H', Ext η μ H η' μ' H' → Rp K η' μ' S' H' → I S' → ∃ vs, SqT K H' a vs ∧ RVs K H' η' μ' xs vs) : JOk K η μ H (IteT K a) (enumD xs) I := by
  intro i η' μ' S' H' e r g
  obtain ⟨vs, h1, q1⟩ := h η' μ' S' H' e r g
  have l1 := q1.length
  rw [enum_len]
  refine ⟨fun hi => ?_, fun hi _ => ⟨vs, h1, by omega⟩⟩
  obtain ⟨v, hv, rv⟩ := q1.get (List.getElem?_eq_getElem hi)
  refine ⟨⟨vs, v, h1, hv⟩, fun x H'' hy => ?_⟩
  obtain ⟨T, v2, rfl, hT, rfl, f1⟩ := hy
  have e1 : v2 = v := Option.some.inj ((f1 vs h1).symm.trans hv)
  subst e1
  exact ⟨grow_new r hT, rp_new r hT, _, enum_get (List.getElem?_eq_getElem hi), rv_new_tup r hT (.cons (.int _) (.cons rv .nil))⟩
theorem enum_it (r : Rp K η μ S H) {x : D} {v : V} {R : RI} {RJ : It → Hp → Prop} (rx : RV K H η μ x v) (h : enumP S x R) (hJ : ∀ J items I, R items I S → JOk K η μ H J items I → RJ J H) :
    ∃ a xs, [v] = [V.ref a] ∧ ((SqL K H a xs ∧ RJ (Ite K a) H) ∨ (SqT K H a xs ∧ RJ (IteT K a) H)) := by
  unfold enumP at h
  split at h
  · cases rx with
    | tup h1 q1 => exact ⟨_, _, rfl, .inr ⟨h1, hJ _ _ _ h (jok_enumT fun η' μ' S' H' e _ _ => ⟨_, SqT.ext e h1, q1.ext e⟩)⟩⟩
  · obtain ⟨xs, e1, h⟩ := h
    obtain ⟨a, vs, rfl, ha, qa⟩ := lst_of r rx e1
    refine ⟨a, vs, rfl, .inl ⟨.inl (.inl ha), hJ _ _ _ h (jok_enum fun η' μ' S' H' e r' g => ?_)⟩⟩
    obtain ⟨a', vs', ea, ha', qa'⟩ := lst_of r' (rx.ext e) g
    cases ea
    exact ⟨vs', .inl (.inl ha'), qa'⟩
def tyS : TyB → String
  | .int => "int" | .bool => "bool" | .str => "str" | .tuple => "tuple" | .list => "list"
/-- what isinstance asks -/
theorem ty_of (r : Rp K η μ S H) {x : D} {v : V} {t : TyB} {Q : QE} (rx : RV K H η μ x v) (h : isiP t x S Q) : ∃ ty b, TyX K H v (.type ty) ∧ kitB ty (tyS t) = some b ∧ Q (.bl b) S := by
  cases rx with
  | non => exact ⟨"NoneType", _, .base .non, by clear h; cases t <;> (simp only [isiD]; decide +kernel), h⟩
  | bl b => exact ⟨"bool", _, .base (.bl b), by clear h; cases t <;> (simp only [isiD]; decide +kernel), h⟩
  | int b => exact ⟨"int", _, .base (.int b), by clear h; cases t <;> (simp only [isiD]; decide +kernel), h⟩
  | str b => exact ⟨"str", _, .base (.str b), by clear h; cases t <;> (simp only [isiD]; decide +kernel), h⟩
  | @tup a0 xs0 ds0 h1 q1 =>
    refine ⟨"tuple", isiD t (.tup ds0), ?_, by clear h; cases t <;> (simp only [isiD]; decide +kernel), h⟩
    rcases h1 with (h1 | ⟨o, h1⟩) | ⟨o, its, n, h1, h2, _⟩
    · exact .base (.tup h1)
    · exact .fTuple h1
    · exact .kTuple h1 h2
  | @lst a0 xs0 ds0 hm hn h1 q1 => exact ⟨"list", isiD t (.lst ds0), .base (.lst h1), by clear h; cases t <;> (simp only [isiD]; decide +kernel), h⟩
  | scr h1 q1 => exact h.elim
  | @key a0 ks0 h1 => exact ⟨"tuple", isiD t (.key ks0), .base (.tup h1), by clear h; cases t <;> (simp only [isiD]; decide +kernel), h⟩
  | @ref n a h1 =>
    obtain ⟨c, hn, h⟩ := h
    obtain ⟨b, hb, hc⟩ := r.cell n _ hn
    rw [h1] at hb; cases hb
    cases c with
    | lst xs =>
      obtain ⟨vs, e2, q2⟩ := hc
      exact ⟨"list", _, .base (.lst e2), by clear h; cases t <;> (simp only [isiC]; decide +kernel), h⟩
    | dct xs =>
      obtain ⟨vs, e2, q2⟩ := hc
      exact ⟨"dict", _, .base (.dT e2), by clear h; cases t <;> (simp only [isiC]; decide +kernel), h⟩
    | dkk xs =>
      obtain ⟨vs, e2, q2⟩ := hc
      exact ⟨"dict", _, .base (.dK e2), by clear h; cases t <;> (simp only [isiC]; decide +kernel), h⟩
    | dkl xs => exact h.elim
    | dlk xs =>
      exact h.elim
end

/-! ### slots of a comprehension -/
theorem wipe_get (σ : L2.St) : ∀ (vs : List Nat) (i : Nat), (wipe σ vs)[i]? = if i ∈ vs then (σ[i]?).map (fun _ => none) else σ[i]?
  | [], i => by simp [wipe]
  | v :: vs, i => by
    have ih := wipe_get σ vs i
    have hl := wipe_length σ vs
    by_cases h : v = i
    · subst h
      by_cases hv : v < σ.length
      · simp [wipe, List.getElem?_set_self (show v < (wipe σ vs).length by omega), List.getElem?_eq_getElem hv]
      · have : σ[v]? = none := List.getElem?_eq_none_iff.mpr (by omega)
        simp [wipe, this]
        omega
    · have h' : ¬ i = v := fun z => h z.symm
      simp only [wipe, List.getElem?_set_ne h, ih, List.mem_cons, h', false_or]
theorem wipe_ext {σ τ : L2.St} {vs : List Nat} (hl : τ.length = σ.length) (h : ∀ i, i ∉ vs → τ[i]? = (wipe σ vs)[i]?) : wipe τ vs = wipe σ vs := by
  apply List.ext_getElem?
  intro i
  rw [wipe_get, wipe_get]
  by_cases hi : i ∈ vs
  · rw [if_pos hi, if_pos hi]
    by_cases hv : i < σ.length
    · rw [List.getElem?_eq_getElem hv, List.getElem?_eq_getElem (by omega)]; rfl
    · rw [List.getElem?_eq_none_iff.mpr (by omega), List.getElem?_eq_none_iff.mpr (by omega)]
  · rw [if_neg hi, if_neg hi]
    have := h i hi
    rw [wipe_get, if_neg hi] at this
    exact this
theorem re_wipe {K : PySem.W.Frag} {H : Hp} {η μ : List Addr} {ρ : DEnv} {σ : L2.St} (r : RE K H η μ ρ σ) : ∀ vs, RE K H η μ (wipeD ρ vs) (wipe σ vs)
  | [] => r
  | v :: vs => (re_wipe r vs).del v

/-! ### simple targets -/
def CT.simple : CT → Bool
  | .name _ => true
  | .tup ts => simples ts
  | .sub _ _ => false
  | .dsub _ _ => false
  | .ksub _ _ => false
where simples : List CT → Bool
  | [] => true
  | t :: ts => CT.simple t && simples ts
def CT.slots : CT → List Nat
  | .name i => [i]
  | .tup ts => slotss ts
  | .sub _ _ => []
  | .dsub _ _ => []
  | .ksub _ _ => []
where slotss : List CT → List Nat
  | [] => []
  | t :: ts => CT.slots t ++ slotss ts
section
variable (K : PySem.W.Frag)
mutual
def gS : CT → TG
  | .name i => gName i
  | .tup ts => fun v σ H Q => gTup K ts.length (gSs ts) v σ H Q ∨ gLst K ts.length (gSs ts) v σ H Q
  | .sub _ _ => fun _ _ _ _ => False
  | .dsub _ _ => fun _ _ _ _ => False
  | .ksub _ _ => fun _ _ _ _ => False
def gSs : List CT → TGs
  | [] => gNil
  | t :: ts => gCons (gS t) (gSs ts)
end
end
section
variable {K : PySem.W.Frag} {η μ : List Addr} {S : DStore} {H : Hp} {G : Fns}
mutual
theorem gS_run : ∀ (t : CT) {d : D} {v : V} {ρ : DEnv} {σ : L2.St} {QD : DEnv → DStore → Prop} {Q : L2.St → Hp → Prop}, CT.simple t = true → Rp K η μ S H → RE K H η μ ρ σ → RV K H η μ d v → wpG G t d ρ S QD →
    (∀ ρ' σ', RE K H η μ ρ' σ' → σ'.length = σ.length → (∀ i, i ∉ CT.slots t → σ'[i]? = σ[i]?) → QD ρ' S → Q σ' H) → gS K t v σ H Q
  | .name i, d, v, ρ, σ, QD, Q, _, hR, hE, rv, h, hQ => by
    simp only [wpG] at h
    refine hQ _ _ (hE.set rv i) (by simp) (fun j hj => ?_) h
    rw [List.getElem?_set_ne (fun z => hj (by simp [CT.slots, z]))]
  | .tup ts, d, v, ρ, σ, QD, Q, hs, hR, hE, rv, h, hQ => by
    simp only [wpG] at h
    unfold unpD at h
    split at h
    · obtain ⟨hl, h⟩ := h
      cases rv with
      | tup h1 q1 => exact .inl ⟨_, _, rfl, h1, by rw [← q1.length]; exact hl, gSs_run ts hs hR hE q1 h hl hQ⟩
    · obtain ⟨xs, e1, hl, h⟩ := h
      obtain ⟨a, vs, rfl, ha, qa⟩ := lst_of hR rv e1
      exact .inr ⟨_, _, rfl, .inl (.inl ha), by rw [← qa.length]; exact hl, gSs_run ts hs hR hE qa h hl hQ⟩
  | .sub _ _, _, _, _, _, _, _, hs, _, _, _, _, _ => by simp [CT.simple] at hs
  | .dsub _ _, _, _, _, _, _, _, hs, _, _, _, _, _ => by simp [CT.simple] at hs
  | .ksub _ _, _, _, _, _, _, _, hs, _, _, _, _, _ => by simp [CT.simple] at hs
theorem gSs_run : ∀ (ts : List CT) {ds : List D} {vs : List V} {ρ : DEnv} {σ : L2.St} {QD : DEnv → DStore → Prop} {Q : L2.St → Hp → Prop}, CT.simple.simples ts = true → Rp K η μ S H → RE K H η μ ρ σ → RVs K H η μ ds vs → wpGs G ts ds ρ S QD → ds.length = ts.length →
    (∀ ρ' σ', RE K H η μ ρ' σ' → σ'.length = σ.length → (∀ i, i ∉ CT.slots.slotss ts → σ'[i]? = σ[i]?) → QD ρ' S → Q σ' H) → gSs K ts vs σ H Q
  | [], ds, vs, ρ, σ, QD, Q, _, hR, hE, rv, h, hl, hQ => by
    have : ds = [] := List.eq_nil_of_length_eq_zero hl
    subst this
    cases rv
    simp only [wpGs] at h
    exact ⟨rfl, hQ _ _ hE rfl (fun _ _ => rfl) h⟩
  | t :: ts, ds, vs, ρ, σ, QD, Q, hs, hR, hE, rv, h, hl, hQ => by
    simp only [wpGs] at h
    obtain ⟨d, r, rfl, h⟩ := h
    simp only [CT.simple.simples, Bool.and_eq_true] at hs
    cases rv with
    | cons a b =>
      refine ⟨_, _, rfl, gS_run t hs.1 hR hE a h fun ρ1 σ1 e1 l1 k1 q1 => ?_⟩
      refine gSs_run ts hs.2 hR e1 b q1 (by simpa using hl) fun ρ2 σ2 e2 l2 k2 q2 => hQ _ _ e2 (l2.trans l1) (fun i hi => ?_) q2
      simp only [CT.slots.slotss, List.mem_append, not_or] at hi
      rw [k2 i hi.2, k1 i hi.1]
end
end
section
variable {K : PySem.W.Frag} {η μ : List Addr} {S : DStore}
theorem grow_pairs : ∀ (xs ys : List D) (vs us : List V) (H : Hp) (QV : List V → Hp → Prop), Rp K η μ S H → RVs K H η μ xs vs → RVs K H η μ ys us → (∀ ws H', Grow μ H μ H' → Rp K η μ S H' → RVs K H' η μ (zipD xs ys) ws → QV ws H') → growT (vs.zip us) H QV
  | _, _, _, _, H, QV, r, .nil, _, h => h [] H .refl r .nil
  | _, _, _, _, H, QV, r, .cons _ _, .nil, h => h [] H .refl r .nil
  | _, _, _, _, H, QV, r, .cons rx rxs, .cons ry rys, h => by
    intro q hq
    exact grow_pairs _ _ _ _ _ _ (rp_new r hq) (rxs.ext (grow_new r hq).ext) (rys.ext (grow_new r hq).ext) fun ws H' g' r' rw' => h _ H' ((grow_new r hq).trans g') r' (.cons ((rv_new_tup r hq (.cons rx (.cons ry .nil))).ext g'.ext) rw')
theorem listZip_of {H : Hp} (r : Rp K η μ S H) {x y : D} {v w : V} {m : Bool} {QD : QE} {Q : VK} (rx : RV K H η μ x v) (ry : RV K H η μ y w) (h : ∃ xs ys, lstOf S x = some xs ∧ lstOf S y = some ys ∧ (xs.zip ys).length ≤ sizeLine ∧ newL m (zipD xs ys) S QD)
    (hQ : ∀ v H', Post K η μ H QD v H' → Q v H') : ∃ a b xs ys, [v, w] = [V.ref a, V.ref b] ∧ SqA K false H a xs ∧ SqA K false H b ys ∧ (xs.zip ys).length ≤ sizeLine ∧ growT (xs.zip ys) H fun us H2 => ∀ q, H2 q = none → Q (.ref q) (upd H2 q (.lst us)) := by
  obtain ⟨xs, ys, e1, e2, hl, hn⟩ := h
  obtain ⟨a, vs, rfl, ha, ra⟩ := lst_of r rx e1
  obtain ⟨b, us, rfl, hb, rb⟩ := lst_of r ry e2
  have l1 := ra.length
  have l2 := rb.length
  refine ⟨a, b, vs, us, rfl, .inl (.inl ha), .inl (.inl hb), by rw [List.length_zip] at hl ⊢; omega, grow_pairs xs ys vs us H _ r ra rb fun ws H' g r' rw' q hq => hQ _ _ ?_⟩
  exact (new_lst r' rw' hn q hq).from g
end
end DL

namespace DL
open PySem PySem.Spec PyProof.Rows L2
/-! ### the look: a core is that of a text -/
structure FI where
  name : Str
  ps : List Str
  kws : List (List Str × List Nat)
  /-- has parameters that come by names alone -/
  ko : Bool
structure Tb where
  fns : List FI
  gls : List Str
  bis : List Str
/-- the scope, and the one whose cells are one's own -/
structure SS where
  s : Scope
  o : Scope
def visB (sc : SS) (x : Str) : Bool := match sc.s.names.lookup x with
  | some .local | some .cell | some .free => true
  | _ => false
def locB (sc : SS) (x : Str) : Bool := match sc.s.names.lookup x with
  | some .local => true
  | some .cell => sc.o.names.lookup x == some .cell
  | _ => false
def glB (sc : SS) (x : Str) : Bool := match sc.s.names.lookup x with
  | some .globalImplicit => true
  | _ => false
def pureB (sc : SS) (x : Str) : Bool := match sc.s.names.lookup x with
  | some .local => true
  | _ => false
def notDbg (x : Str) : Bool := !(x == ("__debug__" : Str)) && !(x == ("__classdict__" : Str))
def TyB.nm : TyB → Str
  | .int => "int" | .bool => "bool" | .str => "str" | .tuple => "tuple" | .list => "list"
/-- walks that make pairs want a target that takes them apart -/
def CI.pairs : CI → Bool
  | .enum _ => true
  | .zip2 _ _ => true
  | .zip3 _ _ _ => true
  | .items _ => true
  | .kitems _ => true
  | _ => false
def isTupE : Expr → Bool
  | .Tuple .. => true
  | _ => false
def okC : CC → Const → Bool
  | .non, .none => true
  | .bl b, .bool c => b == c
  | .int i, .int j => i == j
  | .str x, .str y => x == y
  | _, _ => false
def notSl : Expr → Bool
  | .Slice .. => false
  | _ => true
def notCall : Expr → Bool
  | .Call .. => false
  | _ => true
def notComp : Expr → Bool
  | .ListComp .. | .SetComp .. | .DictComp .. => false
  | _ => true
def notNm : Expr → Bool
  | .Name .. => false
  | _ => true
def kwNames : List Keyword → List (Option Str)
  | [] => []
  | ⟨n, _, _⟩ :: r => n :: kwNames r
def swN (sc : SS) (ts vs : List Expr) : Option (Option (List Str)) :=
  if !(ts.length == 2 || ts.length == 3) || vs.length != ts.length then some none
  else if vs.any (fun | .Starred .. => true | _ => false) then some none
  else
    let line := (ts.head?.map (·.pos.line)).getD 0
    let names := ts.filterMap fun
      | .Name id pos => if sc.s.names.lookup id == some .local && pos.line == line then some id else none
      | _ => none
    if names.length != ts.length || names.eraseDups.length != names.length then some none
    else if vs.all (foldedForSure 8) then some none
    else if vs.all (constantsAlone 8) then none
    else some (some names)
/-- no exchange of stores -/
def noSwap (sc : SS) : Expr → Expr → Bool
  | .Tuple ts _ _, .Tuple vs _ _ => match swN sc ts vs with
    | some none => true
    | _ => false
  | .List _ _, .Tuple _ _ _ => false
  | _, _ => true
section
variable (T : Tb) (N : List Str)
mutual
def okE (sc : SS) : CE → Expr → Bool
  | .var i, .Name x _ => visB sc x && (N[i]? == some x) && notDbg x
  | .con c, .Constant k _ _ => okC c k
  | .glo j, .Name x _ => glB sc x && (T.gls[j]? == some x) && notDbg x
  | .bin op _ a b, .BinOp a' op' b' _ => op == op' && okE sc a a' && okE sc b b'
  | .neg a, .UnaryOp .USub a' _ => okE sc a a'
  | .cmp op a b, .Compare a' [op'] [b'] _ => op == op' && okE sc a a' && okE sc b b'
  | .chain op1 op2 a b c, .Compare a' [o1, o2] [b', c'] _ => op1 == o1 && op2 == o2 && okE sc a a' && okE sc b b' && okE sc c c'
  | .and_ a b, .BoolOp .And (a' :: b' :: r) p => okE sc a a' && (match r with
      | [] => okE sc b b'
      | c' :: r' => okE sc b (.BoolOp .And (b' :: c' :: r') p))
  | .or_ a b, .BoolOp .Or (a' :: b' :: r) p => okE sc a a' && (match r with
      | [] => okE sc b b'
      | c' :: r' => okE sc b (.BoolOp .Or (b' :: c' :: r') p))
  | .not_ a, .UnaryOp .Not a' _ => okE sc a a'
  | .ite t a b, .IfExp t' a' b' _ => okB sc t t' && okE sc a a' && okE sc b b'
  | .tup es, .Tuple es' _ _ => okEs sc es es' && es.length ≤ 1000
  | .lst _ es, .List es' _ => okEs sc es es' && es.length ≤ 1000
  | .ix a i, .Subscript a' i' _ => okE sc a a' && okE sc i i' && notSl i'
  | .sl _ a lo hi, .Subscript a' (.Slice lo' hi' none _) _ => okE sc a a' && okO sc lo lo' && okO sc hi hi'
  | .call j es, .Call (.Name x _) es' [] _ => glB sc x && notDbg x && okEs sc es es' && (match T.fns[j]? with
      | some i => i.name == x && !i.ko
      | none => false)
  | .callK j es kes perm, .Call (.Name x _) es' kws _ => glB sc x && notDbg x && okEs sc es es' && okKs sc kes kws && (match T.fns[j]? with
      | some i => i.name == x && i.kws.any (fun p => p.1.map some == kwNames kws && p.2 == perm)
      | none => false)
  | .bi b _ es, .Call (.Name x _) (e' :: es') [] _ => glB sc x && (b.name == x) && T.bis.contains x && okEs sc es (e' :: es')
  | .tindex j e, .Call (.Attribute (.Name x _) m ap) [e'] [] cp => m == ("index" : Str) && (ap.endLine == cp.line) && (glB sc x && (T.gls[j]? == some x) && notDbg x) && okE sc e e'
  | .isi t a, .Call (.Name x _) [a', .Name y _] [] _ => x == ("isinstance" : Str) && glB sc x && T.bis.contains x && y == t.nm && glB sc y && T.bis.contains y && okE sc a a'
  | .dnew, .Dict [] [] _ => true
  | .dnew1 es v, .Dict [some (.Tuple es' _ _)] [v'] _ => okEs sc es es' && decide (es.length ≤ 1000) && okE sc v v'
  | .ktup es, .Tuple es' _ _ => okEs sc es es' && es.length ≤ 1000
  | .lrg _ a b, .Call (.Name x _) [.Call (.Name y _) [a', b'] [] _] [] _ => x == ("list" : Str) && glB sc x && T.bis.contains x && y == ("range" : Str) && glB sc y && T.bis.contains y && okE sc a a' && okE sc b b'
  | .kix a i, .Subscript a' i' _ => okE sc a a' && okE sc i i' && notSl i'
  | .kget a i x, .Call (.Attribute o m ap) [i', x'] [] cp => m == ("get" : Str) && (ap.endLine == cp.line) && okE sc a o && okE sc i i' && okE sc x x' && notCall o
  | .dcomp key val tg it own, .DictComp key' val' [⟨tg', it', [], 0⟩] scope _ => blkC N sc.s scope (own.map fun i => (N.getD i "", i)) && okE ⟨relS scope sc.s, scope⟩ key key' && okE ⟨relS scope sc.s, scope⟩ val val' && okT ⟨relS scope sc.s, scope⟩ tg tg' && tg.simple && tg.slots.all (own.contains ·) && okI sc it it' && (!it.pairs || isTupE tg')
  | .dlit ks es, .Dict keys values _ => okDs sc ks es keys values && decide (ks ≠ []) && decide (ks.length ≤ 15)
  | .popE a, .Call (.Attribute o m ap) [] [] cp => m == ("pop" : Str) && (ap.endLine == cp.line) && okE sc a o && notCall o
  | .lz _ a b, .Call (.Name x _) [.Call (.Name y _) [a', b'] [] _] [] _ => x == ("list" : Str) && glB sc x && T.bis.contains x && y == ("zip" : Str) && glB sc y && T.bis.contains y && okE sc a a' && okE sc b b'
  | .rev a, .Subscript a' (.Slice none none (some (.UnaryOp .USub (.Constant (.int 1) _ _) _)) _) _ => okE sc a a'
  | .dget2 a es x, .Call (.Attribute o m ap) [.Tuple es' _ _, x'] [] cp => m == ("get" : Str) && (ap.endLine == cp.line) && okE sc a o && okEs sc es es' && decide (es.length ≤ 1000) && okE sc x x' && notCall o
  | .lc2 _ elt tg it tg1 it1 own own1, .ListComp elt' [⟨tg', it', [], 0⟩, ⟨tg1', it1', [], 0⟩] scope _ => blkC N sc.s scope (own.map fun i => (N.getD i "", i)) && okE ⟨relS scope sc.s, scope⟩ elt elt' && okT ⟨relS scope sc.s, scope⟩ tg tg' && tg.simple && tg.slots.all (own.contains ·) && okI sc it it' && (!it.pairs || isTupE tg') && okT ⟨relS scope sc.s, scope⟩ tg1 tg1' && tg1.simple && tg1.slots.all (own1.contains ·) && okI ⟨relS scope sc.s, scope⟩ it1 it1' && (!it1.pairs || isTupE tg1') && own1.all (own.contains ·)
  | .lc _ elt tg it ifs own, .ListComp elt' [⟨tg', it', ifs', 0⟩] scope _ => blkC N sc.s scope (own.map fun i => (N.getD i "", i)) && okE ⟨relS scope sc.s, scope⟩ elt elt' && okT ⟨relS scope sc.s, scope⟩ tg tg' && tg.simple && tg.slots.all (own.contains ·) && okI sc it it' && okBs ⟨relS scope sc.s, scope⟩ ifs ifs' && decide (ifs.length ≤ 1) && (!it.pairs || isTupE tg')
  | _, _ => false
def okEs (sc : SS) : List CE → List Expr → Bool
  | [], [] => true
  | e :: es, e' :: es' => okE sc e e' && okEs sc es es'
  | _, _ => false
def okDs (sc : SS) : List Str → List CE → List (Option Expr) → List Expr → Bool
  | [], [], [], [] => true
  | k :: ks, e :: es, some (.Constant (.str k') _ _) :: keys, e' :: es' => k == k' && okE sc e e' && okDs sc ks es keys es'
  | _, _, _, _ => false
def okKs (sc : SS) : List CE → List Keyword → Bool
  | [], [] => true
  | e :: es, ⟨n, e', _⟩ :: es' => n.isSome && okE sc e e' && okKs sc es es'
  | _, _ => false
def okO (sc : SS) : CO → Option Expr → Bool
  | .no, none => true
  | .yes e, some e' => okE sc e e'
  | _, _ => false
def okB (sc : SS) : CB → Expr → Bool
  | .cand a b, .BoolOp .And (a' :: b' :: r) p => okB sc a a' && (match r with
      | [] => okB sc b b'
      | c' :: r' => okB sc b (.BoolOp .And (b' :: c' :: r') p))
  | .cor a b, .BoolOp .Or (a' :: b' :: r) p => okB sc a a' && (match r with
      | [] => okB sc b b'
      | c' :: r' => okB sc b (.BoolOp .Or (b' :: c' :: r') p))
  | .cnot a, .UnaryOp .Not a' _ => okB sc a a'
  | .ccmp op a b, .Compare a' [op'] [b'] _ => op == op' && okE sc a a' && okE sc b b'
  | .cchain op1 op2 a b c, .Compare a' [o1, o2] [b', c'] _ => op1 == o1 && op2 == o2 && okE sc a a' && okE sc b b' && okE sc c c'
  | .cnil a b, .Compare a' [.NotEq] [b'] _ => okE sc a a' && okE sc b b'
  | .cval e, .Name x p => okE sc e (.Name x p)
  | .cval e, .Call f as ks p => okE sc e (.Call f as ks p)
  | .cval e, .Subscript a i p => okE sc e (.Subscript a i p)
  | .cval e, .Constant c k p => okE sc e (.Constant c k p)
  | _, _ => false
def okBs (sc : SS) : List CB → List Expr → Bool
  | [], [] => true
  | e :: es, e' :: es' => okB sc e e' && okBs sc es es'
  | _, _ => false
def okT (sc : SS) : CT → Expr → Bool
  | .name i, .Name x _ => locB sc x && (N[i]? == some x)
  | .tup ts, .Tuple ts' _ _ => okTs sc ts ts'
  | .sub a i, .Subscript a' i' _ => okE sc a a' && okE sc i i' && notSl i'
  | .ksub a i, .Subscript a' i' _ => okE sc a a' && okE sc i i' && notSl i'
  | .dsub a es, .Subscript a' (.Tuple es' _ _) _ => okE sc a a' && okEs sc es es' && decide (es.length ≤ 1000)
  | _, _ => false
def okTs (sc : SS) : List CT → List Expr → Bool
  | [], [] => true
  | e :: es, e' :: es' => okT sc e e' && okTs sc es es'
  | _, _ => false
def okI (sc : SS) : CI → Expr → Bool
  | .seq e, e' => okE sc e e'
  | .range1 a, .Call (.Name x _) [a'] [] _ => x == ("range" : Str) && glB sc x && T.bis.contains x && okE sc a a'
  | .range2 a b, .Call (.Name x _) [a', b'] [] _ => x == ("range" : Str) && glB sc x && T.bis.contains x && okE sc a a' && okE sc b b'
  | .range3 a b c, .Call (.Name x _) [a', b', c'] [] _ => x == ("range" : Str) && glB sc x && T.bis.contains x && okE sc a a' && okE sc b b' && okE sc c c'
  | .enum a, .Call (.Name x _) [a'] [] _ => x == ("enumerate" : Str) && glB sc x && T.bis.contains x && okE sc a a'
  | .zip3 a b c, .Call (.Name x _) [a', b', c'] [] _ => x == ("zip" : Str) && glB sc x && T.bis.contains x && okE sc a a' && okE sc b b' && okE sc c c'
  | .zip2 a b, .Call (.Name x _) [a', b'] [] _ => x == ("zip" : Str) && glB sc x && T.bis.contains x && okE sc a a' && okE sc b b'
  | .keys e, e' => okE sc e e'
  | .items e, .Call (.Attribute o m ap) [] [] cp => m == ("items" : Str) && (ap.endLine == cp.line) && okE sc e o && notCall o
  | .kkeys e, e' => okE sc e e'
  | .kitems e, .Call (.Attribute o m ap) [] [] cp => m == ("items" : Str) && (ap.endLine == cp.line) && okE sc e o && notCall o
  | _, _ => false
end
mutual
def okS (sc : SS) : CS → Stmt → Bool
  | .expr e, .Expr e' _ => okE T N sc e e' && notComp e'
  | .ret e, .Return (some e') _ => okE T N sc e e'
  | .retN, .Return none _ => true
  | .pass, .Pass _ => true
  | .brk, .Break _ => true
  | .cont, .Continue _ => true
  | .never, _ => true
  | .asg t e, .Assign [t'] e' _ => okT T N sc t t' && okE T N sc e e' && (notComp e' || notNm t') && noSwap sc t' e' && (t.simple || match t with
      | .sub _ _ => true
      | .dsub _ _ => true
      | .ksub _ _ => true
      | .tup [.dsub _ _, .dsub _ _, .dsub _ _] => true
      | _ => false)
  | .par2 i j a b, .Assign [.Tuple [.Name x px, .Name y py] kt pt] (.Tuple [a', b'] k2 p2) _ => pureB sc x && pureB sc y && (N[i]? == some x) && (N[j]? == some y) && decide (i ≠ j) && okE T N sc a a' && okE T N sc b b' && (swN sc [.Name x px, .Name y py] [a', b'] == some (some [x, y]))
  | .par3 i j k a b c, .Assign [.Tuple [.Name x px, .Name y py, .Name z pz] kt pt] (.Tuple [a', b', c'] k2 p2) _ => pureB sc x && pureB sc y && pureB sc z && (N[i]? == some x) && (N[j]? == some y) && (N[k]? == some z) && decide (i ≠ j) && decide (i ≠ k) && decide (j ≠ k) &&
      okE T N sc a a' && okE T N sc b b' && okE T N sc c c' && (swN sc [.Name x px, .Name y py, .Name z pz] [a', b', c'] == some (some [x, y, z]))
  | .setLc i e, .Assign [.Name y py] (.ListComp elt' gs scope pos) _ => (match e with
      | .lc .. => true
      | _ => false) && okE T N sc e (.ListComp elt' gs scope pos) && pureB sc y && (N[i]? == some y) && (py.line == pos.line) && !(scope.names.any fun (n, k) => n == y && (k == .local || k == .cell))
  | .setLc i e, .Assign [.Name y py] (.DictComp key' val' gs scope pos) _ => (match e with
      | .dcomp .. => true
      | _ => false) && okE T N sc e (.DictComp key' val' gs scope pos) && pureB sc y && (N[i]? == some y) && (py.line == pos.line) && !(scope.names.any fun (n, k) => n == y && (k == .local || k == .cell))
  | .aug i op e, .AugAssign (.Name x _) op' e' _ => op == op' && locB sc x && (N[i]? == some x) && okE T N sc e e'
  | .append a e, .Expr (.Call (.Attribute o m ap) [e'] [] cp) _ => m == ("append" : Str) && (ap.endLine == cp.line) && okE T N sc a o && okE T N sc e e' && notCall o
  | .extend a e, .Expr (.Call (.Attribute o m ap) [e'] [] cp) _ => m == ("extend" : Str) && (ap.endLine == cp.line) && okE T N sc a o && okE T N sc e e' && notCall o
  | .popS a, .Expr (.Call (.Attribute o m ap) [] [] cp) _ => m == ("pop" : Str) && (ap.endLine == cp.line) && okE T N sc a o && notCall o
  | .if_ c a b, .If c' a' b' _ => okB T N sc c c' && okSs sc a a' && okSs sc b b'
  | .while_ c b, .While c' b' [] _ => okB T N sc c c' && okSs sc b b'
  | .for_ t it b, .For t' it' b' [] _ => okT T N sc t t' && t.simple && okI T N sc it it' && okSs sc b b' && (!it.pairs || isTupE t')
  | .lock s, st => okS sc s st
  | .lockK s, st => okS sc s st
  | _, _ => false
def okSs (sc : SS) : List CS → List Stmt → Bool
  | [], [] => true
  | e :: es, e' :: es' => okS sc e e' && okSs sc es es'
  | _, _ => false
end
end
end DL

namespace DL
open PySem PySem.Spec PyProof.Rows L2
def spOf (K : PySem.W.Frag) (sp : List D → DStore → QE → Prop) : List V → Hp → VK → Prop := fun vs H Q => ∃ η μ S ds QD, Rp K η μ S H ∧ RVs K H η μ ds vs ∧ sp ds S QD ∧ ∀ v H', Post K η μ H QD v H' → Q v H'
/-- arguments by names, put at their places -/
def gK {α : Type} (d : α) (n : Nat) (perm : List Nat) (us ws : List α) : List α := if ws.length = n then us ++ perm.map (fun i => ws.getD i d) else []
structure Tab (P : Program) (w : World) (K : PySem.W.Frag) (mg : Str → Option Value) (base : Heap) (k : Nat) (T : Tb) (G : Fns) : Prop where
  fn : ∀ (j : Nat) (i : FI), T.fns[j]? = some i → ∃ f fd, FnG P w K mg base k f fd i.ps (spOf K (G.fn j)) ∧ mg i.name = some (.ref f) ∧ PySem.W.keepIn K (.ref f) = true ∧ (i.ko = false → KBinds K fd i.ps [] (fun us _ => us) (fun vs _ => vs)) ∧
    ∀ p ∈ i.kws, KBinds K fd i.ps p.1 (gK .none p.1.length p.2) (gK .non p.1.length p.2)
  gl : ∀ (j : Nat) (x : Str), T.gls[j]? = some x → ∃ u v, mg x = some u ∧ RelV v u ∧ (∀ H η μ, RV K H η μ (G.gl j) v) ∧ ∀ a, v = .ref a → ∃ o, K.lookup a = some o ∧ o.cls = .type "tuple" ∧ o.dict = none
  bi : ∀ x ∈ T.bis, mg x = none
structure Here (T : Tb) (G : Fns) (k : Nat) (N : List Str) (X : Cx) (sc : SS) : Prop where
  tab : Tab X.prog X.w X.K X.mg X.base k T G
  nm : X.N = N
  nd : N.Nodup
  scp : X.env.scope = sc.s
  kind : sc.s.kind = .function
  calm : X.calm = true
  room : Room k X.A
  gd : X.A.guards = some []
  xe : X.xe = fun _ _ => False
  fn : ∀ x, sc.o.names.lookup x = some .cell → X.fn x = true
section
variable {T : Tb} {G : Fns} {k : Nat} {N : List Str} {X : Cx} {sc : SS}
theorem vis_of {x : Str} (h : visB sc x = true) : Vis sc.s x := by
  unfold visB at h; unfold Vis
  split at h <;> simp_all
theorem loc_of {x : Str} (h : locB sc x = true) : L2.Loc sc.s x ∧ (sc.o.names.lookup x = some .cell ∨ sc.s.names.lookup x = some .local) := by
  unfold locB at h; unfold L2.Loc
  split at h <;> simp_all
theorem gl_of {x : Str} (hx : Here T G k N X sc) (h : glB sc x = true) : Gl X x := by
  unfold glB at h
  show X.env.scope.names.lookup x = some .globalImplicit
  rw [hx.scp]
  split at h <;> simp_all
theorem pure_of {x : Str} (h : pureB sc x = true) : sc.s.names.lookup x = some .local := by
  unfold pureB at h
  split at h <;> simp_all
theorem dbg_of {x : Str} (h : notDbg x = true) : (x == ("__debug__" : Str)) = false ∧ (x == ("__classdict__" : Str)) = false := by
  unfold notDbg at h
  simpa using h
theorem no_star {c : CE} {e : Expr} {p : Pos} : okE T N sc c (.Starred e p) = true → False := by
  cases c <;> simp [okE]
theorem no_set {c : CE} {es : List Expr} {n : Nat} {p : Pos} : okE T N sc c (.Set es n p) = true → False := by
  cases c <;> simp [okE]
theorem star_of {c : CE} {e : Expr} {es : List Expr} {env : Env} (h : okE T N sc c e = true) : starEach (e :: es) env = (false, eval e env) :: starEach es env := by
  cases e <;> first | rfl | exact (no_star h).elim
theorem mark_of {c : CE} {e : Expr} {op : CmpOp} (h : okE T N sc c e = true) : behindInMarks op e = false := by
  cases e <;> first | rfl | exact (no_set h).elim
theorem fold_of {c : CE} {e : Expr} {env : Env} (h : okE T N sc c e = true) : ∀ x, foldedSetIterable e env x = pure x := by
  cases e <;> first | (intro x; rfl) | exact (no_set h).elim
theorem stars_of {pos : Pos} {env : Env} : ∀ {es : List CE} {es' : List Expr}, okEs T N sc es es' = true → (backTo pos (starEach es' env)).any (·.1) = false
  | [], [], _ => rfl
  | [], _ :: _, h => by simp [okEs] at h
  | _ :: _, [], h => by simp [okEs] at h
  | e :: es, e' :: es', h => by
    simp only [okEs, Bool.and_eq_true] at h
    rw [star_of h.1]
    have ih := stars_of (pos := pos) (env := env) h.2
    simpa [backTo] using ih
theorem kws_of {pos : Pos} {env : Env} : ∀ {es : List CE} {ks : List Keyword} , okKs T N sc es ks = true → (backToKw pos (keywordEach ks env)).all (·.1.isSome) = true ∧ (backToKw pos (keywordEach ks env)).any (·.1.isNone) = false ∧
    (backToKw pos (keywordEach ks env)).map (·.1) = kwNames ks
  | [], [], _ => ⟨rfl, rfl, rfl⟩
  | [], _ :: _, h => by simp [okKs] at h
  | _ :: _, [], h => by simp [okKs] at h
  | e :: es, ⟨n, e', p⟩ :: es', h => by
    simp only [okKs, Bool.and_eq_true] at h
    obtain ⟨a, b, c⟩ := kws_of (pos := pos) (env := env) h.2
    refine ⟨?_, ?_, ?_⟩
    · simp [backToKw, keywordEach] at a ⊢
      exact ⟨h.1.1, a⟩
    · simp [backToKw, keywordEach] at b ⊢
      exact ⟨by cases n <;> simp_all, b⟩
    · simp [backToKw, keywordEach, kwNames] at c ⊢
      exact c
theorem filterMap_names : ∀ {α : Type} (l : List (Option Str × α)) (ks : List Str), l.map (·.1) = ks.map some → l.filterMap (·.1) = ks
  | _, [], [], _ => rfl
  | _, [], _ :: _, h => by simp at h
  | _, _ :: _, [], h => by simp at h
  | _, (n, a) :: l, y :: ks, h => by
    simp only [List.map_cons, List.cons.injEq] at h
    obtain ⟨h1, h2⟩ := h
    have h1' : n = some y := h1
    subst h1'
    have ih := filterMap_names l ks h2
    simpa using ih
theorem sub_of {o i : Expr} {pos : Pos} {env : Env} (h : notSl i = true) : ∀ v, assign (.Subscript o i pos) env v = (do
      let ov ← holding [v] (eval o env)
      let iv ← holding [v, ov] (eval i env)
      standAt pos
      holding [v, ov, iv] (setItem ov iv v)
      release [v, ov, iv] []) := by
  cases i <;> first | (intro v; rfl) | (simp [notSl] at h)
theorem plain_of {i : Expr} (h : notSl i = true) : PlainIx i := by
  cases i <;> first | (intro o j; rfl) | (simp [notSl] at h)
theorem nosl_of {i : Expr} (h : notSl i = true) : NoSl i := by
  cases i <;> first | (intro o j; rfl) | (simp [notSl] at h)
theorem base_of {o : Expr} {m : Str} {env : Env} (h : notCall o = true) : attributeBase o m env (eval o env) = eval o env := by
  cases o <;> first | rfl | (simp [notCall] at h)
theorem swaps_of {e : Expr} {t : Option Expr} {l : Nat} {env : Env} (h : notComp e = true) : swapsWith e t l env = pure false := by
  cases e <;> first | rfl | (simp [notComp] at h)
theorem block_of (hx : Here T G k N X sc) : X.env.blockKind = .function := by
  unfold Env.blockKind
  rw [hx.scp, hx.kind]; rfl
theorem swN_of (hx : Here T G k N X sc) {ts vs : List Expr} {r : Option (List Str)} {k1 k2 : Nat} {p1 p2 : Pos} (h : swN sc ts vs = some r) : swappedStores [.Tuple ts k1 p1] (.Tuple vs k2 p2) X.env = pure r := by
  have hb := block_of hx
  unfold swN at h
  unfold swappedStores
  have hk : ∀ id : Str, X.env.kindOf id = sc.s.names.lookup id := fun id => by
    show X.env.scope.names.lookup id = _
    rw [hx.scp]
  simp only [hb, hk, bne_self_eq_false, Bool.or_false]
  split at h
  · rename_i h1
    cases h
    exact if_pos h1
  · rename_i h1
    refine (if_neg h1).trans ?_
    split at h
    · rename_i h2
      cases h
      exact if_pos h2
    · rename_i h2
      refine (if_neg h2).trans ?_
      simp only at h
      split at h
      · rename_i h3
        cases h
        exact if_pos h3
      · rename_i h3
        refine (if_neg h3).trans ?_
        split at h
        · rename_i h4
          cases h
          exact if_pos h4
        · rename_i h4
          refine (if_neg h4).trans ?_
          split at h
          · cases h
          · rename_i h5
            cases h
            exact if_neg h5
theorem noSwap_of (hx : Here T G k N X sc) {t e : Expr} (h : noSwap sc t e = true) : swappedStores [t] e X.env = pure none := by
  unfold noSwap at h
  split at h
  · split at h
    · rename_i h1; exact swN_of hx h1
    · cases h
  · cases h
  · rename_i h1 h2
    cases t <;> cases e <;> first | rfl | exact (h1 _ _ _ _ _ _ rfl rfl).elim | exact (h2 _ _ _ _ _ rfl rfl).elim
end
end DL

namespace DL
open PySem PySem.Spec PyProof.Rows L2
section
variable {T : Tb} {G : Fns} {k : Nat} {N : List Str}
theorem getD_of {K : PySem.W.Frag} {H : Hp} {η μ : List Addr} {ds : List D} {vs : List V} (q : RVs K H η μ ds vs) (i : Nat) : RV K H η μ (ds.getD i .non) (vs.getD i .non) := by
  by_cases h : i < ds.length
  · obtain ⟨v, e, r⟩ := q.get (List.getElem?_eq_getElem h)
    rw [List.getD_eq_getElem?_getD, List.getD_eq_getElem?_getD, List.getElem?_eq_getElem h, e]
    exact r
  · rw [List.getD_eq_getElem?_getD, List.getD_eq_getElem?_getD, List.getElem?_eq_none_iff.mpr (by omega), List.getElem?_eq_none_iff.mpr (by rw [← q.length]; omega)]
    exact .non
theorem perm_of {K : PySem.W.Frag} {H : Hp} {η μ : List Addr} {ds : List D} {vs : List V} (q : RVs K H η μ ds vs) : ∀ l : List Nat, RVs K H η μ (l.map fun i => ds.getD i .non) (l.map fun i => vs.getD i .non)
  | [] => .nil
  | i :: l => .cons (getD_of q i) (perm_of q l)
theorem Here.blk {X : Cx} {sc : SS} {scope : Scope} (hx : Here T G k N X sc) (hk : scope.kind = .function) (s : Shared) (H : Hp) (C : Addr) (cl : List (Str × Addr)) (fp : List Addr) :
    Here T G k N (X.blk s H scope (compEnvC scope cl C X.env) fp) ⟨relS scope sc.s, scope⟩ :=
  ⟨hx.tab, hx.nm, hx.nd, by rw [← hx.scp]; rfl, hk, hx.calm, hx.room, hx.gd, rfl, fun x h => by show (scope.names.lookup x == some .cell) = true; rw [h]; rfl⟩
theorem grow_hidden {μ μ' : List Addr} {H H' : Hp} {D : Addr} {o : HO} (g : Grow μ H μ' H') (h : H D = none) : Grow μ H μ' (upd H' D o) :=
  ⟨g.pre, fun a u e n => ⟨by rw [upd_ne (ne_of_none e h)]; exact (g.keep a u e n).1, (g.keep a u e n).2⟩, fun a xs e => by rw [upd_ne (ne_of_none e h)]; exact g.tup a xs e, fun a u w e => by rw [upd_ne (ne_of_none e h)]; exact g.frz a u w e⟩
theorem ext_hidden {η μ μ' : List Addr} {H H' : Hp} {D : Addr} (g : Grow μ H μ' H') (h : H D = none) : Ext η μ H (D :: η) μ' H' :=
  ⟨g.pre, fun a u e n m => ⟨(g.keep a u e n).1, (g.keep a u e n).2, fun z => by
    rcases List.mem_cons.mp z with z | z
    · exact ne_of_none e h z
    · exact m z⟩, g.tup, g.frz⟩
theorem bool_ext {X : Cx} {op : BoolOp} {vs : List Expr} {p : Pos} {t : TT} (h : PT X (.BoolOp op vs p) t) : PW X (.BoolOp op vs p) t := ⟨fun whole pins s σ H Q I q => by
  have := h.run pins s σ H Q I q
  simp only [PySem.isTrue] at this ⊢
  exact this⟩
/-- the reading of a comprehension -/
theorem lc_of {X : Cx} {η μ : List Addr} {ρ : DEnv} {S : DStore} {σ : L2.St} {H : Hp} {m : Bool} {elt : CE} {tg : CT} {it : CI} {ifs : List CB} {own : List Nat} {QD : QE} {Q : VK}
    (hE : RE X.K H η μ ρ σ) (hR : Rp X.K η μ S H) (hs : tg.simple = true) (hsl : ∀ i ∈ tg.slots, i ∈ own) (hT : wpE G (.lc m elt tg it ifs own) ρ S QD) (hQ : ∀ v H', Post X.K η μ H QD v H' → Q v H') :
    tLc (iOf X.K (wpI G it)) (gS X.K tg) (bOf X.K (wpBs G ifs)) (tOf X.K (wpE G elt)) own σ H Q := by
  simp only [wpE] at hT
  refine ⟨η, μ, ρ, S, _, hE, hR, hT, fun J H1 items I S1 μ1 g1 r1 hW jok D hD => ?_⟩
  obtain ⟨W, w0, wst, hlen, turn, fin⟩ := hW
  have hDη : D ∉ η := (r1.fresh hD).2
  refine ⟨fun i m H' => i ≤ items.length ∧ m = items.length - i ∧ ∃ acc vs S' μ', Grow μ1 H1 μ' H' ∧ Rp X.K (D :: η) μ' S' H' ∧ H' D = some (.lst vs) ∧ RVs X.K H' (D :: η) μ' acc vs ∧ W i acc S',
    ⟨items.length, Nat.zero_le _, rfl, [], [], S1, μ1, grow_new r1 hD, rp_hide r1 hD, upd_same, .nil, w0⟩, ?_⟩
  rintro i mm H' ⟨hi, rfl, acc, vs, S', μ', gg, rr, hDv, rvs, w⟩
  obtain ⟨hI, hacc, _⟩ := wst i acc S' w
  obtain ⟨jgo, jstop⟩ := jok i (D :: η) μ' S' H' (ext_hidden gg hD) rr hI
  by_cases hlt : i < items.length
  · right
    obtain ⟨go, yl⟩ := jgo hlt
    refine ⟨go, fun H'' => i + 1 ≤ items.length ∧ ∃ acc vs S' μ', Grow μ1 H1 μ' H'' ∧ Rp X.K (D :: η) μ' S' H'' ∧ H'' D = some (.lst vs) ∧ RVs X.K H'' (D :: η) μ' acc vs ∧ W (i + 1) acc S',
      fun H'' hN => ⟨items.length - (i + 1), by omega, hN.1, rfl, hN.2⟩, fun x H'' hy => ?_⟩
    obtain ⟨gy, ry, d, hd, rvd⟩ := yl x H'' hy
    have hE2 : RE X.K H'' (D :: η) μ' ρ σ := ((hE.ext g1.ext).ext (ext_hidden gg hD)).ext gy.ext
    refine gS_run tg hs ry (re_wipe hE2 own) rvd (turn i d acc S' w hd) fun ρ2 σ2 e2 l2 k2 q2 => ⟨?_, ?_⟩
    · refine wipe_ext (by rw [l2, wipe_length]) fun j hj => ?_
      exact k2 j fun z => hj (hsl j z)
    · have hDy : H'' D = some (.lst vs) := (gy.keep D _ hDv (rr.hid D (by simp)).1).1
      refine useB e2 ry q2 fun b S3 μ3 H3 g3 r3 e3 q3 => ?_
      have hD3 : H3 D = some (.lst vs) := (g3.keep D _ hDy (ry.hid D (by simp)).1).1
      cases b with
      | true =>
        simp only [if_true] at q3 ⊢
        refine use e3 r3 q3 fun y S4 v4 μ4 H4 g4 r4 e4 rv4 q4 => ?_
        have hD4 : H4 D = some (.lst vs) := (g4.keep D _ hD3 (r3.hid D (by simp)).1).1
        have gAll : Grow μ1 H1 μ4 H4 := ((gg.trans gy).trans g3).trans g4
        have rvs4 : RVs X.K H4 (D :: η) μ4 acc vs := ((rvs.ext gy.ext).ext g3.ext).ext g4.ext
        refine ⟨vs, hD4, by rw [← rvs.length]; omega, hlt, acc ++ [y], vs ++ [v4], S4, μ4, grow_hidden gAll hD, rp_hset r4, upd_same, ?_, q4⟩
        exact (rvs4.append (.cons rv4 .nil)).ext (ext_hset r4)
      | false =>
        simp only [Bool.false_eq_true, if_false] at q3 ⊢
        exact ⟨hlt, acc, vs, S3, μ3, (gg.trans gy).trans g3, r3, hD3, (rvs.ext gy.ext).ext g3.ext, q3⟩
  · left
    have hi' : i = items.length := by omega
    subst hi'
    refine ⟨jstop (Nat.le_refl _) (Nat.le_refl _), hQ _ _ ?_⟩
    have f := fin acc S' w
    cases m with
    | true =>
      refine ⟨_, _, _, g1.trans ⟨?_, fun a o e n => ⟨(gg.keep a o e n).1, fun z => ?_⟩, gg.tup, gg.frz⟩, rp_showCell hDη rr hDv rvs, .ref (by rw [← rr.len]; simp), f⟩
      · obtain ⟨more, rfl⟩ := gg.pre
        exact ⟨more ++ [D], by simp⟩
      · rcases List.mem_append.mp z with z | z
        · exact (gg.keep a o e n).2 z
        · exact ne_of_none e hD (by simpa using z)
    | false => exact ⟨_, _, _, g1.trans gg, rp_show rr, .lst (rr.hid D (by simp)).1 hDη hDv (rvs.ext ext_show), f⟩
/-- the reading of a dict's comprehension -/
theorem dc_of {X : Cx} {η μ : List Addr} {ρ : DEnv} {S : DStore} {σ : L2.St} {H : Hp} {key val : CE} {tg : CT} {it : CI} {own : List Nat} {QD : QE} {Q : VK}
    (hE : RE X.K H η μ ρ σ) (hR : Rp X.K η μ S H) (hs : tg.simple = true) (hsl : ∀ i ∈ tg.slots, i ∈ own) (hT : wpE G (.dcomp key val tg it own) ρ S QD) (hQ : ∀ v H', Post X.K η μ H QD v H' → Q v H') :
    tDc (iOf X.K (wpI G it)) (gS X.K tg) tYes (tOf X.K (wpE G key)) (tOf X.K (wpE G val)) own σ H Q := by
  simp only [wpE] at hT
  refine ⟨η, μ, ρ, S, _, hE, hR, hT, fun J H1 items I S1 μ1 g1 r1 hW jok D hD => ?_⟩
  obtain ⟨W, w0, wst, turn, fin⟩ := hW
  have hDη : D ∉ η := (r1.fresh hD).2
  refine ⟨fun i m H' => i ≤ items.length ∧ m = items.length - i ∧ ∃ acc vs S' μ', Grow μ1 H1 μ' H' ∧ Rp X.K (D :: η) μ' S' H' ∧ H' D = some (.dK vs) ∧ RKs X.K H' (D :: η) μ' acc vs ∧ W i acc S',
    ⟨items.length, Nat.zero_le _, rfl, [], [], S1, μ1, grow_new r1 hD, rp_hideO r1 (fun _ z => nomatch z) (fun _ _ z => nomatch z) hD, upd_same, .nil, w0⟩, ?_⟩
  rintro i mm H' ⟨hi, rfl, acc, vs, S', μ', gg, rr, hDv, rvs, w⟩
  obtain ⟨hI, _⟩ := wst i acc S' w
  obtain ⟨jgo, jstop⟩ := jok i (D :: η) μ' S' H' (ext_hidden gg hD) rr hI
  by_cases hlt : i < items.length
  · right
    obtain ⟨go, yl⟩ := jgo hlt
    refine ⟨go, fun H'' => i + 1 ≤ items.length ∧ ∃ acc vs S' μ', Grow μ1 H1 μ' H'' ∧ Rp X.K (D :: η) μ' S' H'' ∧ H'' D = some (.dK vs) ∧ RKs X.K H'' (D :: η) μ' acc vs ∧ W (i + 1) acc S',
      fun H'' hN => ⟨items.length - (i + 1), by omega, hN.1, rfl, hN.2⟩, fun x H'' hy => ?_⟩
    obtain ⟨gy, ry, d, hd, rvd⟩ := yl x H'' hy
    have hE2 : RE X.K H'' (D :: η) μ' ρ σ := ((hE.ext g1.ext).ext (ext_hidden gg hD)).ext gy.ext
    refine gS_run tg hs ry (re_wipe hE2 own) rvd (turn i d acc S' w hd) fun ρ2 σ2 e2 l2 k2 q2 => ⟨?_, ?_⟩
    · refine wipe_ext (by rw [l2, wipe_length]) fun j hj => ?_
      exact k2 j fun z => hj (hsl j z)
    · have hDy : H'' D = some (.dK vs) := (gy.keep D _ hDv (rr.hid D (by simp)).1).1
      simp only [tYes, if_true]
      refine use e2 ry q2 fun y S3 v3 μ3 H3 g3 r3 e3 rv3 q3 => ?_
      have hD3 : H3 D = some (.dK vs) := (g3.keep D _ hDy (ry.hid D (by simp)).1).1
      refine use e3 r3 q3 fun z S4 v4 μ4 H4 g4 r4 e4 rv4 q4 => ?_
      have hD4 : H4 D = some (.dK vs) := (g4.keep D _ hD3 (r3.hid D (by simp)).1).1
      obtain ⟨k, hk, hlen, q⟩ := q4
      have gAll : Grow μ1 H1 μ4 H4 := ((gg.trans gy).trans g3).trans g4
      have rvs4 : RKs X.K H4 (D :: η) μ4 acc vs := ((rvs.ext gy.ext).ext g3.ext).ext g4.ext
      refine ⟨vs, k, keyOf_rv rv3 hk, hD4, by rw [← rvs.length]; exact hlen, hlt, putD acc k z, putK vs k v4, S4, μ4, grow_hidden gAll hD, rp_hsetO (fun _ z => nomatch z) (fun _ _ z => nomatch z) r4, upd_same, ?_, q⟩
      exact (rvs4.put rv4).ext (ext_hset r4)
  · left
    have hi' : i = items.length := by omega
    subst hi'
    refine ⟨jstop (Nat.le_refl _) (Nat.le_refl _), hQ _ _ ?_⟩
    have f := fin acc S' w
    refine ⟨_, _, _, g1.trans ⟨?_, fun a o e n => ⟨(gg.keep a o e n).1, fun z => ?_⟩, gg.tup, gg.frz⟩, rp_showCellK hDη rr hDv rvs, .ref (by rw [← rr.len]; simp), f⟩
    · obtain ⟨more, rfl⟩ := gg.pre
      exact ⟨more ++ [D], by simp⟩
    · rcases List.mem_append.mp z with z | z
      · exact (gg.keep a o e n).2 z
      · exact ne_of_none e hD (by simpa using z)
/-- the reading of one with two fors -/
theorem lc2_of {X : Cx} {η μ : List Addr} {ρ : DEnv} {S : DStore} {σ : L2.St} {H : Hp} {m : Bool} {elt : CE} {tg tg1 : CT} {it it1 : CI} {own own1 : List Nat} {QD : QE} {Q : VK}
    (hE : RE X.K H η μ ρ σ) (hR : Rp X.K η μ S H) (hs : tg.simple = true) (hsl : ∀ i ∈ tg.slots, i ∈ own) (hs1 : tg1.simple = true) (hsl1 : ∀ i ∈ tg1.slots, i ∈ own1) (hT : wpE G (.lc2 m elt tg it tg1 it1 own own1) ρ S QD) (hQ : ∀ v H', Post X.K η μ H QD v H' → Q v H') :
    tLc2 (iOf X.K (wpI G it)) (gS X.K tg) tYes (iOf X.K (wpI G it1)) (gS X.K tg1) tYes (tOf X.K (wpE G elt)) own own1 σ H Q := by
  simp only [wpE] at hT
  refine ⟨η, μ, ρ, S, _, hE, hR, hT, fun J H1 items I S1 μ1 g1 r1 hW jok D hD => ?_⟩
  obtain ⟨W, w0, wst, turn, fin⟩ := hW
  have hDη : D ∉ η := (r1.fresh hD).2
  refine ⟨fun i m H' => i ≤ items.length ∧ m = items.length - i ∧ ∃ acc vs S' μ', Grow μ1 H1 μ' H' ∧ Rp X.K (D :: η) μ' S' H' ∧ H' D = some (.lst vs) ∧ RVs X.K H' (D :: η) μ' acc vs ∧ W i acc S',
    ⟨items.length, Nat.zero_le _, rfl, [], [], S1, μ1, grow_new r1 hD, rp_hide r1 hD, upd_same, .nil, w0⟩, ?_⟩
  rintro i mm H' ⟨hi, rfl, acc, vs, S', μ', gg, rr, hDv, rvs, w⟩
  obtain ⟨hI, _⟩ := wst i acc S' w
  obtain ⟨jgo, jstop⟩ := jok i (D :: η) μ' S' H' (ext_hidden gg hD) rr hI
  by_cases hlt : i < items.length
  · right
    obtain ⟨go, yl⟩ := jgo hlt
    refine ⟨go, fun H'' => i + 1 ≤ items.length ∧ ∃ acc vs S' μ', Grow μ1 H1 μ' H'' ∧ Rp X.K (D :: η) μ' S' H'' ∧ H'' D = some (.lst vs) ∧ RVs X.K H'' (D :: η) μ' acc vs ∧ W (i + 1) acc S',
      fun H'' hN => ⟨items.length - (i + 1), by omega, hN.1, rfl, hN.2⟩, fun x H'' hy => ?_⟩
    obtain ⟨gy, ry, d, hd, rvd⟩ := yl x H'' hy
    have hE2 : RE X.K H'' (D :: η) μ' ρ σ := ((hE.ext g1.ext).ext (ext_hidden gg hD)).ext gy.ext
    refine gS_run tg hs ry (re_wipe hE2 own) rvd (turn i d acc S' w hd) fun ρ2 σ2 e2 l2 k2 q2 => ⟨?_, ?_⟩
    · refine wipe_ext (by rw [l2, wipe_length]) fun j hj => ?_
      exact k2 j fun z => hj (hsl j z)
    · have hDy : H'' D = some (.lst vs) := (gy.keep D _ hDv (rr.hid D (by simp)).1).1
      simp only [tYes, if_true]
      refine ⟨D :: η, μ', ρ2, S', _, e2, ry, q2, fun J1 H4 items1 I1 S4 μ4 g4 r4 hW1 jok1 => ?_⟩
      obtain ⟨W1, w10, wst1, turn1, fin1⟩ := hW1
      have hD4 : H4 D = some (.lst vs) := (g4.keep D _ hDy (ry.hid D (by simp)).1).1
      refine ⟨fun j k H5 => j ≤ items1.length ∧ k = items1.length - j ∧ ∃ acc vs S5 μ5, Ext (D :: η) μ4 H4 (D :: η) μ5 H5 ∧ Grow μ1 H1 μ5 H5 ∧ Rp X.K (D :: η) μ5 S5 H5 ∧ H5 D = some (.lst vs) ∧ RVs X.K H5 (D :: η) μ5 acc vs ∧ W1 j acc S5,
        ⟨items1.length, Nat.zero_le _, rfl, acc, vs, S4, μ4, Ext.refl, (gg.trans gy).trans g4, r4, hD4, (rvs.ext gy.ext).ext g4.ext, w10⟩, ?_⟩
      rintro j kk H5 ⟨hj, rfl, acc1, vs1, S5, μ5, ex5, gg5, rr5, hD5, rvs5, w5⟩
      obtain ⟨hI1, hacc1, _⟩ := wst1 j acc1 S5 w5
      obtain ⟨jgo1, jstop1⟩ := jok1 j (D :: η) μ5 S5 H5 ex5 rr5 hI1
      by_cases hlt1 : j < items1.length
      · right
        obtain ⟨go1, yl1⟩ := jgo1 hlt1
        refine ⟨go1, fun H6 => j + 1 ≤ items1.length ∧ ∃ acc vs S5 μ5, Ext (D :: η) μ4 H4 (D :: η) μ5 H6 ∧ Grow μ1 H1 μ5 H6 ∧ Rp X.K (D :: η) μ5 S5 H6 ∧ H6 D = some (.lst vs) ∧ RVs X.K H6 (D :: η) μ5 acc vs ∧ W1 (j + 1) acc S5,
          fun H6 hN => ⟨items1.length - (j + 1), by omega, hN.1, rfl, hN.2⟩, fun x1 H6 hy1 => ?_⟩
        obtain ⟨gy1, ry1, d1, hd1, rvd1⟩ := yl1 x1 H6 hy1
        have hE6 : RE X.K H6 (D :: η) μ5 ρ2 σ2 := ((e2.ext g4.ext).ext ex5).ext gy1.ext
        refine gS_run tg1 hs1 ry1 (re_wipe hE6 own1) rvd1 (turn1 j d1 acc1 S5 w5 hd1) fun ρ3 σ3 e3 l3 k3 q3 => ⟨?_, ?_⟩
        · refine wipe_ext (by rw [l3, wipe_length]) fun n hn => ?_
          exact k3 n fun z => hn (hsl1 n z)
        · have hD6 : H6 D = some (.lst vs1) := (gy1.keep D _ hD5 (rr5.hid D (by simp)).1).1
          simp only [tYes, if_true]
          refine use e3 ry1 q3 fun y S7 v7 μ7 H7 g7 r7 e7 rv7 q7 => ?_
          have hD7 : H7 D = some (.lst vs1) := (g7.keep D _ hD6 (ry1.hid D (by simp)).1).1
          have rvs7 : RVs X.K H7 (D :: η) μ7 acc1 vs1 := (rvs5.ext gy1.ext).ext g7.ext
          refine ⟨vs1, hD7, by rw [← rvs5.length]; exact hacc1, hlt1, acc1 ++ [y], vs1 ++ [v7], S7, μ7, ((ex5.trans gy1.ext).trans g7.ext).trans (ext_hset r7), grow_hidden ((gg5.trans gy1).trans g7) hD, rp_hset r7, upd_same, ?_, q7⟩
          exact (rvs7.append (.cons rv7 .nil)).ext (ext_hset r7)
      · left
        have hj' : j = items1.length := by omega
        subst hj'
        exact ⟨jstop1 (Nat.le_refl _) (Nat.le_refl _), hlt, acc1, vs1, S5, μ5, gg5, rr5, hD5, rvs5, fin1 acc1 S5 w5⟩
  · left
    have hi' : i = items.length := by omega
    subst hi'
    refine ⟨jstop (Nat.le_refl _) (Nat.le_refl _), hQ _ _ ?_⟩
    have f := fin acc S' w
    cases m with
    | true =>
      refine ⟨_, _, _, g1.trans ⟨?_, fun a o e n => ⟨(gg.keep a o e n).1, fun z => ?_⟩, gg.tup, gg.frz⟩, rp_showCell hDη rr hDv rvs, .ref (by rw [← rr.len]; simp), f⟩
      · obtain ⟨more, rfl⟩ := gg.pre
        exact ⟨more ++ [D], by simp⟩
      · rcases List.mem_append.mp z with z | z
        · exact (gg.keep a o e n).2 z
        · exact ne_of_none e hD (by simpa using z)
    | false => exact ⟨_, _, _, g1.trans gg, rp_show rr, .lst (rr.hid D (by simp)).1 hDη hDv (rvs.ext ext_show), f⟩
end
end DL

set_option maxHeartbeats 4000000
namespace DL
open PySem PySem.Spec PyProof.Rows L2
section
variable {T : Tb} {G : Fns} {k : Nat} {N : List Str}
theorem bi_val (b : BI) : (∃ id, b.val = .builtin id) ∨ ∃ t, b.val = .type t := by cases b <;> first | exact .inl ⟨_, rfl⟩ | exact .inr ⟨_, rfl⟩
theorem pe_bi {X : Cx} {b : BI} {e : Expr} {es : List Expr} {t : TA} {p pos : Pos} {r : List V → Hp → VK → Prop} (hc : CallR X b.val r) (hg : Gl X b.name) (hm : X.mg b.name = none) (ha : PA X (e :: es) t)
    (he : starEach (e :: es) X.env = (false, eval e X.env) :: starEach es X.env) (hpl : (backTo pos (starEach es X.env)).any (·.1) = false) : PE X (.Call (.Name b.name p) (e :: es) [] pos) (tCB r t) := by
  have hb := b.boot
  rcases bi_val b with ⟨id, ev⟩ | ⟨id, ev⟩
  · rw [ev] at hc hb
    exact pe_callB hc hg hm hb ha b.nm.1 b.nm.2 he hpl
  · rw [ev] at hc hb
    exact pe_callTy hc hg hm hb ha b.nm.1 b.nm.2 he hpl
theorem pairs_of {c : CI} {e : Expr} (h : (!c.pairs || isTupE e) = true) : c.pairs = true → isTupE e = true := by
  cases hc : c.pairs <;> simp_all
theorem pg_or {X : Cx} {e : Expr} {g1 g2 : TG} (h1 : PG X e g1) (h2 : PG X e g2) : PG X e (fun v σ H Q => g1 v σ H Q ∨ g2 v σ H Q) :=
  ⟨fun pins s σ H v u Q I r hw => hw.elim (fun h => h1.run pins s σ H v u Q I r h) fun h => h2.run pins s σ H v u Q I r h⟩
theorem lits {α : Type} [BEq α] [LawfulBEq α] {o : Option α} {x : α} (h : (o == some x) = true) : o = some x := by simpa using h
theorem cut_whole {xs : List D} {n : Nat} {l u : Option Int} (h : xs.length = n) (z : HT.sIx n 0 l = 0 ∧ HT.sIx n n u = n) : cutD xs l u = xs := by
  unfold cutD
  rw [h, z.1, z.2, List.drop_zero, Nat.sub_zero, ← h]
  exact List.take_length
theorem okEs_cons {sc : SS} {cs : List CE} {e : Expr} {es : List Expr} (h : okEs T N sc cs (e :: es) = true) : (∃ c, okE T N sc c e = true) ∧ ∃ cs', okEs T N sc cs' es = true := by
  cases cs with
  | nil => simp [okEs] at h
  | cons c cs => simp only [okEs, Bool.and_eq_true] at h; exact ⟨⟨c, h.1⟩, cs, h.2⟩
theorem pa1 {X : Cx} {e : Expr} {T : TD} (h : PE X e (tOf X.K T)) (hs : starEach [e] X.env = (false, eval e X.env) :: starEach [] X.env) : PA X [e] (aOf X.K 1 (fun ρ S Q => T ρ S fun d S1 => Q [d] S1)) :=
  PA.imp (pa_cons h pa_nil hs) fun σ H Q ⟨η, μ, ρ, S, QD, hE, hR, hT, hQ⟩ => use hE hR hT fun d S1 v μ1 H1 g1 r1 e1 rv1 q1 => hQ _ _ ⟨[d], S1, μ1, g1, r1, .cons rv1 .nil, q1⟩ rfl
theorem pa2 {X : Cx} {e e' : Expr} {T T' : TD} (h : PE X e (tOf X.K T)) (h' : PE X e' (tOf X.K T')) (hs : starEach [e, e'] X.env = (false, eval e X.env) :: starEach [e'] X.env) (hs' : starEach [e'] X.env = (false, eval e' X.env) :: starEach [] X.env) :
    PA X [e, e'] (aOf X.K 2 (fun ρ S Q => T ρ S fun d S1 => T' ρ S1 fun d' S2 => Q [d, d'] S2)) :=
  PA.imp (pa_cons h (pa_cons h' pa_nil hs') hs) fun σ H Q ⟨η, μ, ρ, S, QD, hE, hR, hT, hQ⟩ => use hE hR hT fun d S1 v μ1 H1 g1 r1 e1 rv1 q1 => use e1 r1 q1 fun d2 S2 v2 μ2 H2 g2 r2 e2 rv2 q2 =>
    hQ _ _ ⟨[d, d2], S2, μ2, g1.trans g2, r2, .cons (rv1.ext g2.ext) (.cons rv2 .nil), q2⟩ rfl
theorem kes_len {sc : SS} : ∀ {cs : List CE} {ks : List Keyword}, okKs T N sc cs ks = true → cs.length = ks.length ∧ (kwNames ks).length = ks.length
  | [], [], _ => ⟨rfl, rfl⟩
  | [], _ :: _, h => by simp [okKs] at h
  | _ :: _, [], h => by simp [okKs] at h
  | c :: cs, ⟨n, e, p⟩ :: ks, h => by
    simp only [okKs, Bool.and_eq_true] at h
    obtain ⟨a, b⟩ := kes_len h.2
    exact ⟨by simp [a], by simp [kwNames, b]⟩
theorem sI_fold {sc : SS} {env : Env} (c : CI) (e : Expr) (h : okI T N sc c e = true) : ∀ x, foldedSetIterable e env x = pure x := by
  cases e <;> first | (intro x; rfl) | (exfalso; cases c <;> first | (simp [okI] at h; done) | (simp only [okI] at h; exact no_set h))
theorem one_of {ds : List D} {vs : List V} {K : PySem.W.Frag} {H : Hp} {η μ : List Addr} (r : RVs K H η μ ds vs) (h : vs.length = 1) : ∃ d v, ds = [d] ∧ vs = [v] ∧ RV K H η μ d v := by
  cases r with
  | nil => simp at h
  | cons a b => cases b with
    | nil => exact ⟨_, _, rfl, rfl, a⟩
    | cons c d => simp at h
theorem two_of {ds : List D} {vs : List V} {K : PySem.W.Frag} {H : Hp} {η μ : List Addr} (r : RVs K H η μ ds vs) (h : vs.length = 2) : ∃ d d' v v', ds = [d, d'] ∧ vs = [v, v'] ∧ RV K H η μ d v ∧ RV K H η μ d' v' := by
  cases r with
  | nil => simp at h
  | cons a b =>
    obtain ⟨d, v, rfl, rfl, r⟩ := one_of b (by simpa using h)
    exact ⟨_, _, _, _, rfl, rfl, a, r⟩
set_option maxHeartbeats 4000000 in
theorem rks_zip {κ : Type} {K : PySem.W.Frag} {H : Hp} {η μ : List Addr} : ∀ (ks : List κ) {ds : List D} {vs : List V}, RVs K H η μ ds vs → RKs K H η μ (ks.zip ds) (ks.zip vs)
  | [], _, _, _ => .nil
  | _ :: _, _, _, .nil => .nil
  | _ :: ks, _, _, .cons a b => .cons a (rks_zip ks b)
theorem rks_merge {K : PySem.W.Frag} {H : Hp} {η μ : List Addr} {ds : List (L2.Key × D)} {vs : List (L2.Key × V)} (r : RKs K H η μ ds vs) : ∀ {es : List (L2.Key × D)} {ws : List (L2.Key × V)}, RKs K H η μ es ws → RKs K H η μ (mergeD es ds) (mergeK ws vs) := by
  induction r with
  | nil => intro es ws q; exact q
  | cons a b ih => intro es ws q; exact ih (q.put a)
theorem rg_rvL {K : PySem.W.Frag} {H : Hp} {η μ : List Addr} (i : Int) : ∀ l : List Nat, RVs K H η μ (l.map fun (k : Nat) => D.int (i + k)) (l.map fun (k : Nat) => V.int (i + (k : Nat)))
  | [] => .nil
  | k :: l => .cons (.int _) (rg_rvL i l)
theorem rg_rv {K : PySem.W.Frag} {H : Hp} {η μ : List Addr} (i j : Int) : RVs K H η μ (rangeD i j) (rgV i j) := rg_rvL i _
mutual
theorem sE : ∀ (c : CE) {X : Cx} {sc : SS} (e : Expr), Here T G k N X sc → okE T N sc c e = true → DE X e (wpE G c)
  | .var i, X, sc, e, hx, h => by
    cases e <;> first | (simp [okE] at h; done) | skip
    simp only [okE, Bool.and_eq_true] at h
    obtain ⟨⟨h1, h2⟩, h3⟩ := h
    refine DE.mk (pe_var (i := i) (by rw [hx.nm]; exact lits h2) (by rw [hx.scp]; exact vis_of h1) (dbg_of h3).1 (dbg_of h3).2) fun η μ ρ S σ H Q QD hE hR hT hQ => ?_
    simp only [wpE] at hT
    obtain ⟨d, e, q⟩ := hT
    obtain ⟨v, ev, rv⟩ := hE.get i d e
    exact ⟨v, ev, hQ _ _ (stay hR rv q)⟩
  | .con c, X, sc, e, hx, h => by
    cases e <;> first | (simp [okE] at h; done) | skip
    rename_i kk _ _
    simp only [okE] at h
    cases c <;> cases kk <;> first | (simp [okC] at h; done) | skip
    · exact DE.mk pe_non fun η μ ρ S σ H Q QD hE hR hT hQ => hQ _ _ (stay hR .non (by simpa only [wpE, CC.d] using hT))
    · simp only [okC, beq_iff_eq] at h; subst h
      exact DE.mk pe_bl fun η μ ρ S σ H Q QD hE hR hT hQ => hQ _ _ (stay hR (.bl _) (by simpa only [wpE, CC.d] using hT))
    · simp only [okC, beq_iff_eq] at h; subst h
      exact DE.mk pe_int fun η μ ρ S σ H Q QD hE hR hT hQ => hQ _ _ (stay hR (.int _) (by simpa only [wpE, CC.d] using hT))
    · simp only [okC, beq_iff_eq] at h; subst h
      exact DE.mk pe_str fun η μ ρ S σ H Q QD hE hR hT hQ => hQ _ _ (stay hR (.str _) (by simpa only [wpE, CC.d] using hT))
  | .glo j, X, sc, e, hx, h => by
    cases e <;> first | (simp [okE] at h; done) | skip
    simp only [okE, Bool.and_eq_true] at h
    obtain ⟨⟨h1, h2⟩, h3⟩ := h
    obtain ⟨u, v, hm, r, rv, _⟩ := hx.tab.gl j _ (lits h2)
    refine DE.mk (pe_glob (gl_of hx h1) hm r (dbg_of h3).1) fun η μ ρ S σ H Q QD hE hR hT hQ => hQ _ _ (stay hR (rv _ _ _) (by simpa only [wpE] using hT))
  | .bin op m a b, X, sc, e, hx, h => by
    cases e <;> first | (simp [okE] at h; done) | skip
    simp only [okE, Bool.and_eq_true, beq_iff_eq] at h
    obtain ⟨⟨h1, h2⟩, h3⟩ := h
    subst h1
    obtain ⟨r, ho, hr⟩ := binR (X := X) op
    refine DE.mk (pe_op ho (sE a _ hx h2) (sE b _ hx h3)) fun η μ ρ S σ H Q QD hE hR hT hQ => ?_
    simp only [wpE] at hT
    refine use hE hR hT fun d S1 v μ1 H1 g1 r1 e1 rv1 q1 => use e1 r1 q1 fun d2 S2 v2 μ2 H2 g2 r2 e2 rv2 q2 => ?_
    exact hr r2 (rv1.ext g2.ext) rv2 q2 fun v H' p => hQ _ _ ((p.from g2).from g1)
  | .neg a, X, sc, e, hx, h => by
    cases e <;> first | (simp [okE] at h; done) | skip
    rename_i op x p
    cases op <;> first | (simp [okE] at h; done) | skip
    simp only [okE] at h
    refine DE.mk (pe_un un_neg (sE a _ hx h)) fun η μ ρ S σ H Q QD hE hR hT hQ => ?_
    simp only [wpE] at hT
    refine use hE hR hT fun d S1 v μ1 H1 g1 r1 e1 rv1 q1 => ?_
    obtain ⟨i, rfl, q⟩ := q1
    cases rv1
    exact ⟨_, rfl, hQ _ _ ((stay r1 (.int _) q).from g1)⟩
  | .cmp op a b, X, sc, e, hx, h => by
    cases e <;> first | (simp [okE] at h; done) | skip
    rename_i l ops cs p
    match ops, cs, h with
    | [op'], [b'], h =>
      simp only [okE, Bool.and_eq_true, beq_iff_eq] at h
      obtain ⟨⟨h1, h2⟩, h3⟩ := h
      subst h1
      obtain ⟨r, ho, hr⟩ := cmpR (X := X) hx.room.units op
      refine DE.mk (pe_cmpR ho (sE a _ hx h2) (sE b _ hx h3) (mark_of h3)) fun η μ ρ S σ H Q QD hE hR hT hQ => ?_
      simp only [wpE] at hT
      refine use hE hR hT fun d S1 v μ1 H1 g1 r1 e1 rv1 q1 => use e1 r1 q1 fun d2 S2 v2 μ2 H2 g2 r2 e2 rv2 q2 => ?_
      exact hr r2 (rv1.ext g2.ext) rv2 q2 fun b hb => hQ _ _ (((stay r2 (.bl b) hb).from g2).from g1)
    | [], _, h => simp [okE] at h
    | [_], [], h => simp [okE] at h
    | [_], _ :: _ :: _, h => simp [okE] at h
    | _ :: _ :: _, _, h => simp [okE] at h
  | .chain op1 op2 a b c, X, sc, e, hx, h => by
    cases e <;> first | (simp [okE] at h; done) | skip
    rename_i l ops cs p
    match ops, cs, h with
    | [o1, o2], [b', c'], h =>
      simp only [okE, Bool.and_eq_true, beq_iff_eq] at h
      obtain ⟨⟨⟨⟨h1, h2⟩, h3⟩, h4⟩, h5⟩ := h
      subst h1; subst h2
      obtain ⟨r, ho, hr⟩ := cmpR (X := X) hx.room.units op1
      obtain ⟨r', ho', hr'⟩ := cmpR (X := X) hx.room.units op2
      refine DE.mk (pe_chain ho ho' (sE a _ hx h3) (sE b _ hx h4) (sE c _ hx h5) (by show behindInMarks op2 c' = false; exact mark_of h5)) fun η μ ρ S σ H Q QD hE hR hT hQ => ?_
      simp only [wpE] at hT
      refine use hE hR hT fun d S1 v μ1 H1 g1 r1 e1 rv1 q1 => use e1 r1 q1 fun d2 S2 v2 μ2 H2 g2 r2 e2 rv2 q2 => ?_
      refine hr r2 (rv1.ext g2.ext) rv2 q2 fun b hb => ⟨b, rfl, ?_⟩
      cases b with
      | true =>
        simp only [if_true] at hb ⊢
        refine use e2 r2 hb fun d3 S3 v3 μ3 H3 g3 r3 e3 rv3 q3 => ?_
        exact hr' r3 (rv2.ext g3.ext) rv3 q3 fun b hb => hQ _ _ ((((stay r3 (.bl b) hb).from g3).from g2).from g1)
      | false =>
        simp only [Bool.false_eq_true, if_false] at hb ⊢
        exact hQ _ _ (((stay r2 (.bl _) hb).from g2).from g1)
    | [], _, h => simp [okE] at h
    | [_], _, h => simp [okE] at h
    | [_, _], [], h => simp [okE] at h
    | [_, _], [_], h => simp [okE] at h
    | [_, _], _ :: _ :: _ :: _, h => simp [okE] at h
    | _ :: _ :: _ :: _, _, h => simp [okE] at h
  | .and_ a b, X, sc, e, hx, h => by
    cases e <;> first | (simp [okE] at h; done) | skip
    rename_i op vs p
    match op, vs, h with
    | .And, a' :: b' :: r, h =>
      simp only [okE, Bool.and_eq_true] at h
      have hb : PE X (.BoolOp .And (b' :: r) p) (tOf X.K (wpE G b)) := by
        cases r with
        | nil => exact pe_one (sE b _ hx h.2)
        | cons c' r' => exact sE b _ hx h.2
      refine DE.mk (pe_and (sE a _ hx h.1) hb) fun η μ ρ S σ H Q QD hE hR hT hQ => ?_
      simp only [wpE] at hT
      refine use hE hR hT fun d S1 v μ1 H1 g1 r1 e1 rv1 q1 => ?_
      obtain ⟨c, rfl, q⟩ := q1
      cases rv1
      refine ⟨c, rfl, ?_⟩
      cases c with
      | true =>
        simp only [if_true] at q ⊢
        exact ⟨_, _, _, _, _, e1, r1, q, fun v H' p => hQ _ _ (p.from g1)⟩
      | false =>
        simp only [Bool.false_eq_true, if_false] at q ⊢
        exact hQ _ _ ((stay r1 (.bl _) q).from g1)
    | .And, [], h => simp [okE] at h
    | .And, [_], h => simp [okE] at h
    | .Or, _, h => simp [okE] at h
  | .or_ a b, X, sc, e, hx, h => by
    cases e <;> first | (simp [okE] at h; done) | skip
    rename_i op vs p
    match op, vs, h with
    | .Or, a' :: b' :: r, h =>
      simp only [okE, Bool.and_eq_true] at h
      have hb : PE X (.BoolOp .Or (b' :: r) p) (tOf X.K (wpE G b)) := by
        cases r with
        | nil => exact pe_one (sE b _ hx h.2)
        | cons c' r' => exact sE b _ hx h.2
      refine DE.mk (pe_or (sE a _ hx h.1) hb) fun η μ ρ S σ H Q QD hE hR hT hQ => ?_
      simp only [wpE] at hT
      refine use hE hR hT fun d S1 v μ1 H1 g1 r1 e1 rv1 q1 => ?_
      obtain ⟨c, rfl, q⟩ := q1
      cases rv1
      refine ⟨c, rfl, ?_⟩
      cases c with
      | false =>
        simp only [Bool.false_eq_true, if_false] at q ⊢
        exact ⟨_, _, _, _, _, e1, r1, q, fun v H' p => hQ _ _ (p.from g1)⟩
      | true =>
        simp only [if_true] at q ⊢
        exact hQ _ _ ((stay r1 (.bl _) q).from g1)
    | .Or, [], h => simp [okE] at h
    | .Or, [_], h => simp [okE] at h
    | .And, _, h => simp [okE] at h
  | .not_ a, X, sc, e, hx, h => by
    cases e <;> first | (simp [okE] at h; done) | skip
    rename_i op x p
    cases op <;> first | (simp [okE] at h; done) | skip
    simp only [okE] at h
    refine DE.mk (pe_not (sE a _ hx h)) fun η μ ρ S σ H Q QD hE hR hT hQ => ?_
    simp only [wpE] at hT
    refine use hE hR hT fun d S1 v μ1 H1 g1 r1 e1 rv1 q1 => ?_
    obtain ⟨i, rfl, q⟩ := q1
    cases rv1
    exact ⟨_, rfl, hQ _ _ ((stay r1 (.bl _) q).from g1)⟩
  | .ite t a b, X, sc, e, hx, h => by
    cases e <;> first | (simp [okE] at h; done) | skip
    simp only [okE, Bool.and_eq_true] at h
    refine DE.mk (pe_ifExp (sB t _ hx h.1.1) (sE a _ hx h.1.2) (sE b _ hx h.2)) fun η μ ρ S σ H Q QD hE hR hT hQ => ?_
    simp only [wpE] at hT
    refine useB hE hR hT fun c S1 μ1 H1 g1 r1 e1 q1 => ?_
    cases c with
    | true =>
      simp only [if_true] at q1 ⊢
      exact ⟨_, _, _, _, _, e1, r1, q1, fun v H' p => hQ _ _ (p.from g1)⟩
    | false =>
      simp only [Bool.false_eq_true, if_false] at q1 ⊢
      exact ⟨_, _, _, _, _, e1, r1, q1, fun v H' p => hQ _ _ (p.from g1)⟩
  | .tup es, X, sc, e, hx, h => by
    cases e <;> first | (simp [okE] at h; done) | skip
    simp only [okE, Bool.and_eq_true, decide_eq_true_eq] at h
    refine DE.mk (pe_tup (sEs es _ hx h.1)) fun η μ ρ S σ H Q QD hE hR hT hQ => ?_
    simp only [wpE] at hT
    refine useA hE hR hT fun ds S1 vs μ1 H1 g1 r1 e1 rv1 hl q1 => ⟨?_, fun p hp => hQ _ _ ((new_tup r1 rv1 q1 p hp).from g1)⟩
    have : (1000 : Nat) ≤ sizeLine := by decide
    omega
  | .lst m es, X, sc, e, hx, h => by
    cases e <;> first | (simp [okE] at h; done) | skip
    simp only [okE, Bool.and_eq_true, decide_eq_true_eq] at h
    refine DE.mk (pe_lst (sEs es _ hx h.1)) fun η μ ρ S σ H Q QD hE hR hT hQ => ?_
    simp only [wpE] at hT
    refine useA hE hR hT fun ds S1 vs μ1 H1 g1 r1 e1 rv1 hl q1 => ⟨?_, fun p hp => hQ _ _ ((new_lst r1 rv1 q1 p hp).from g1)⟩
    have : (1000 : Nat) ≤ sizeLine := by decide
    omega
  | .ix a i, X, sc, e, hx, h => by
    cases e <;> first | (simp [okE] at h; done) | skip
    simp only [okE, Bool.and_eq_true] at h
    refine DE.mk (pe_ix (ix_seq.or (ix_dictS (by have := hx.room.units; omega))) (sE a _ hx h.1.1) (sE i _ hx h.1.2) (plain_of h.2)) fun η μ ρ S σ H Q QD hE hR hT hQ => ?_
    simp only [wpE] at hT
    refine use hE hR hT fun d S1 v μ1 H1 g1 r1 e1 rv1 q1 => use e1 r1 q1 fun d2 S2 v2 μ2 H2 g2 r2 e2 rv2 q2 => ?_
    exact ix_of r2 (rv1.ext g2.ext) rv2 q2 fun d v rv q => hQ _ _ (((stay r2 rv q).from g2).from g1)
  | .sl m a lo hi, X, sc, e, hx, h => by
    cases e <;> first | (simp [okE] at h; done) | skip
    rename_i o s p
    cases s <;> first | (simp [okE] at h; done) | skip
    rename_i lo' hi' st p2
    cases st <;> first | (simp [okE] at h; done) | skip
    simp only [okE, Bool.and_eq_true] at h
    refine DE.mk (pe_slice (sl_list.or sl_tupA) (sE a _ hx h.1.1) (sO lo _ hx h.1.2) (sO hi _ hx h.2)) fun η μ ρ S σ H Q QD hE hR hT hQ => ?_
    simp only [wpE] at hT
    refine use hE hR hT fun d S1 v μ1 H1 g1 r1 e1 rv1 q1 => useB e1 r1 q1 fun l S2 μ2 H2 g2 r2 e2 q2 => useB e2 r2 q2 fun u S3 μ3 H3 g3 r3 e3 q3 => ?_
    have rv3 := (rv1.ext g2.ext).ext g3.ext
    have hQ' : ∀ v H', Post X.K η μ3 H3 QD v H' → Q v H' := fun v H' p => hQ _ _ (((p.from g3).from g2).from g1)
    simp only [slD] at q3
    split at q3
    · cases rv3 with
      | tup hh qq =>
        refine .inr ⟨_, _, rfl, hh, fun z => ?_, fun _ p hp => hQ' _ _ (new_tup r3 (cut_of qq l u) q3 p hp)⟩
        refine hQ' _ _ (stay r3 (.tup hh qq) ?_)
        rw [cut_whole qq.length z] at q3
        exact q3
    · obtain ⟨xs, e4, hn⟩ := q3
      obtain ⟨a4, vs4, rfl, h4, q4⟩ := lst_of r3 rv3 e4
      exact .inl ⟨_, _, rfl, .inl (.inl h4), fun p hp => hQ' _ _ (new_lst r3 (cut_of q4 l u) hn p hp)⟩
  | .call j es, X, sc, e, hx, h => by
    cases e <;> first | (simp [okE] at h; done) | skip
    rename_i f as ks p
    cases f <;> first | (simp [okE] at h; done) | skip
    cases ks with
    | cons _ _ => simp [okE] at h
    | nil =>
      simp only [okE, Bool.and_eq_true] at h
      obtain ⟨⟨⟨h1, h2⟩, h3⟩, h4⟩ := h
      split at h4
      · rename_i i hi
        simp only [Bool.and_eq_true, beq_iff_eq, Bool.not_eq_true'] at h4
        obtain ⟨h4, hko⟩ := h4
        subst h4
        obtain ⟨f, fd, F, hm, hk, hb0, _⟩ := hx.tab.fn j i hi
        have hb := hb0 hko
        cases as with
        | nil =>
          cases es with
          | cons _ _ => simp [okEs] at h3
          | nil =>
            refine DE.mk (pe_callG0 F hx.room hx.gd (gl_of hx h1) hm hk hb pk_nil rfl rfl (dbg_of h2).1 rfl) fun η μ ρ S σ H Q QD hE hR hT hQ => ?_
            simp only [wpE, wpEs] at hT
            exact ⟨η, μ, S, [], QD, hR, .nil, hT, fun v H' p => hQ _ _ p⟩
        | cons e' es' =>
          obtain ⟨⟨c0, h31⟩, _⟩ := okEs_cons h3
          refine DE.mk (pe_callG F hx.room hx.gd (gl_of hx h1) hm hk hb (sEs es _ hx h3) pk_nil rfl rfl (dbg_of h2).1 (star_of h31) (by rw [stars_of h3]; rfl)) fun η μ ρ S σ H Q QD hE hR hT hQ => ?_
          simp only [wpE] at hT
          refine useA hE hR hT fun ds S1 vs μ1 H1 g1 r1 e1 rv1 hl q1 => ?_
          exact ⟨η, μ1, S1, ds, QD, r1, rv1, q1, fun v H' p => hQ _ _ (p.from g1)⟩
      · cases h4
  | .callK j es kes perm, X, sc, e, hx, h => by
    cases e <;> first | (simp [okE] at h; done) | skip
    rename_i f as ks p
    cases f <;> first | (simp [okE] at h; done) | skip
    simp only [okE, Bool.and_eq_true] at h
    obtain ⟨⟨⟨⟨h1, h2⟩, h3⟩, h5⟩, h4⟩ := h
    split at h4
    · rename_i i hi
      simp only [Bool.and_eq_true, beq_iff_eq, List.any_eq_true] at h4
      obtain ⟨h6, pp, hp, h7, h8⟩ := h4
      subst h6; subst h8
      obtain ⟨f, fd, F, hm, hk, _, hb⟩ := hx.tab.fn j i hi
      have K1 := kws_of (pos := p) (env := X.env) h5
      have hks : (backToKw p (keywordEach ks X.env)).filterMap (·.1) = pp.1 := filterMap_names _ _ (by rw [K1.2.2, h7])
      have hkl : kes.length = pp.1.length := by
        obtain ⟨z1, z2⟩ := kes_len h5
        rw [← h7, List.length_map] at z2
        omega
      cases as with
      | nil =>
        cases es with
        | cons _ _ => simp [okEs] at h3
        | nil =>
          refine DE.mk (pe_callG0 F hx.room hx.gd (gl_of hx h1) hm hk (hb pp hp) (sKs kes _ hx h5) K1.1 hks (dbg_of h2).1 (by rw [K1.2.1]; rfl)) fun η μ ρ S σ H Q QD hE hR hT hQ => ?_
          simp only [wpE, wpEs] at hT
          refine useA hE hR hT fun ds S1 vs μ1 H1 g1 r1 e1 rv1 hl q1 => ?_
          refine ⟨η, μ1, S1, _, QD, r1, ?_, q1, fun v H' p => hQ _ _ (p.from g1)⟩
          unfold gK
          rw [if_pos (by rw [hl]; exact hkl)]
          exact RVs.append .nil (perm_of rv1 pp.2)
      | cons e' es' =>
        obtain ⟨⟨c0, h31⟩, _⟩ := okEs_cons h3
        refine DE.mk (pe_callG F hx.room hx.gd (gl_of hx h1) hm hk (hb pp hp) (sEs es _ hx h3) (sKs kes _ hx h5) K1.1 hks (dbg_of h2).1 (star_of h31) (by rw [stars_of h3, K1.2.1]; rfl)) fun η μ ρ S σ H Q QD hE hR hT hQ => ?_
        simp only [wpE] at hT
        refine useA hE hR hT fun ds S1 vs μ1 H1 g1 r1 e1 rv1 hl q1 => useA e1 r1 q1 fun ds2 S2 vs2 μ2 H2 g2 r2 e2 rv2 hl2 q2 => ?_
        refine ⟨η, μ2, S2, _, QD, r2, ?_, q2, fun v H' p => hQ _ _ ((p.from g2).from g1)⟩
        unfold gK
        rw [if_pos (by rw [hl2]; exact hkl)]
        exact (rv1.ext g2.ext).append (perm_of rv2 pp.2)
    · cases h4
  | .bi b m es, X, sc, e, hx, h => by
    cases e <;> first | (simp [okE] at h; done) | skip
    rename_i f as ks p
    cases f <;> first | (simp [okE] at h; done) | skip
    cases as with
    | nil => simp [okE] at h
    | cons e' es' =>
      cases ks with
      | cons _ _ => simp [okE] at h
      | nil =>
        simp only [okE, Bool.and_eq_true, beq_iff_eq] at h
        obtain ⟨⟨⟨h1, h2⟩, h4⟩, h3⟩ := h
        subst h2
        obtain ⟨⟨c0, h31⟩, cs0, h32⟩ := okEs_cons h3
        obtain ⟨r, hc, hr⟩ := biR (X := X) hx.calm hx.gd hx.room.units b
        refine DE.mk (pe_bi hc (gl_of hx h1) (hx.tab.bi _ (by simpa using h4)) (sEs es _ hx h3) (star_of h31) (stars_of h32)) fun η μ ρ S σ H Q QD hE hR hT hQ => ?_
        simp only [wpE] at hT
        refine useA hE hR hT fun ds S1 vs μ1 H1 g1 r1 e1 rv1 hl q1 => ?_
        exact hr r1 rv1 q1 fun v H' p => hQ _ _ (p.from g1)
  | .isi t a, X, sc, e, hx, h => by
    cases e <;> first | (simp [okE] at h; done) | skip
    rename_i f as ks p
    cases f <;> first | (simp [okE] at h; done) | skip
    match as, ks, h with
    | [a', b'], [], h =>
      cases b' <;> first | (simp [okE] at h; done) | skip
      rename_i y py
      simp only [okE, Bool.and_eq_true, beq_iff_eq] at h
      obtain ⟨⟨⟨⟨⟨⟨h1, h2⟩, h3⟩, h4⟩, h5⟩, h6⟩, h7⟩ := h
      subst h1; subst h4
      have hs : starEach [a', .Name t.nm py] X.env = (false, eval a' X.env) :: starEach [.Name t.nm py] X.env := star_of h7
      have hty : PE X (.Name t.nm py) (tC (.ty (tyS t))) := by
        have hb := hx.tab.bi _ (by simpa using h6)
        cases t <;> exact pe_bltn (u := .type _) (gl_of hx h5) hb (by decide +kernel) rfl
      refine DE.mk (pe_callB call_isi (gl_of hx h2) (hx.tab.bi _ (by simpa using h3)) (by decide +kernel) (pa_cons (sE a a' hx h7) (pa_cons hty pa_nil rfl) hs) (by decide) (by decide) hs rfl) fun η μ ρ S σ H Q QD hE hR hT hQ => ?_
      simp only [wpE] at hT
      refine use hE hR hT fun d S1 v μ1 H1 g1 r1 e1 rv1 q1 => ?_
      obtain ⟨ty, b9, h8, h9, q⟩ := ty_of r1 rv1 q1
      refine ⟨v, _, _, _, _, rfl, .ty _, h8, kit_ty h9, hQ _ _ ((stay r1 (.bl _) q).from g1)⟩
    | [], _, h => simp [okE] at h
    | [_], _, h => simp [okE] at h
    | _ :: _ :: _ :: _, _, h => simp [okE] at h
    | [_, _], _ :: _, h => simp [okE] at h
  | .dnew, X, sc, e, hx, h => by
    unfold okE at h
    split at h <;> first | (cases h; done) | (rename_i hq; cases hq; done) | skip
    refine DE.mk pe_dnewT fun η μ ρ S σ H Q QD hE hR hT hQ => ?_
    simp only [wpE] at hT
    intro p hp
    exact hQ _ _ ⟨_, _, _, grow_cell hR hp, rp_cellD hR hp .nil, rv_cell hR, hT⟩
  | .dnew1 es v, X, sc, e, hx, h => by
    cases e <;> first | (simp [okE] at h; done) | skip
    rename_i ks vs p
    match ks, vs, h with
    | [some (.Tuple es' tk tp)], [v'], h =>
      simp only [okE, Bool.and_eq_true, decide_eq_true_eq] at h
      obtain ⟨⟨h1, h2⟩, h3⟩ := h
      refine DE.mk (pe_disp1 hx.room.units (pe_tup (sEs es _ hx h1)) (sE v _ hx h3)) fun η μ ρ S σ H Q QD hE hR hT hQ => ?_
      simp only [wpE] at hT
      intro p hp
      have g0 := grow_cell (o := .dT []) hR hp
      have r0 := rp_cellD hR hp .nil
      refine useA (hE.ext g0.ext) r0 hT fun ys S1 vs μ1 H1 g1 r1 e1 rv1 hl q1 => ⟨?_, fun p1 hp1 => ?_⟩
      · have : (1000 : Nat) ≤ sizeLine := by decide
        omega
      have g2 := grow_new (o := .tup vs) r1 hp1
      have r2 := rp_new (o := .tup vs) r1 hp1
      refine use (e1.ext g2.ext) r2 q1 fun z S2 w μ2 H2 g3 r3 e3 rv3 q2 => ?_
      obtain ⟨ks, hk, hc, q⟩ := q2
      have rvp : RV X.K H2 η μ2 (.ref S.length) (.ref p) := (((rv_cell hR).ext g1.ext).ext g2.ext).ext g3.ext
      have eb : vs = ks.map kV := keysOf_rv rv1 hk
      have rvp' := rvp
      cases rvp' with
      | ref hn =>
        obtain ⟨a', ha', ws, hw, qs⟩ := r3.cell _ _ hc
        rw [hn] at ha'; cases ha'
        cases qs
        refine ⟨hw, p1, ks, rfl, by rw [← eb]; exact g3.tup _ _ upd_same, ?_⟩
        have gg := grow_set (o := .dT [(ks, w)]) r3 hn hw
        exact hQ _ _ ⟨_, _, _, (((g0.trans g1).trans g2).trans g3).trans gg, rp_setD r3 hn hw (.cons rv3 .nil), rvp.ext gg.ext, q⟩
    | [], _, h => simp [okE] at h
    | _ :: _ :: _, _, h => simp [okE] at h
    | [_], [], h => simp [okE] at h
    | [_], _ :: _ :: _, h => simp [okE] at h
  | .ktup es, X, sc, e, hx, h => by
    cases e <;> first | (simp [okE] at h; done) | skip
    simp only [okE, Bool.and_eq_true, decide_eq_true_eq] at h
    refine DE.mk (pe_tup (sEs es _ hx h.1)) fun η μ ρ S σ H Q QD hE hR hT hQ => ?_
    simp only [wpE] at hT
    refine useA hE hR hT fun ds S1 vs μ1 H1 g1 r1 e1 rv1 hl q1 => ⟨?_, fun p hp => ?_⟩
    · have : (1000 : Nat) ≤ sizeLine := by decide
      omega
    obtain ⟨ks, hk, q⟩ := q1
    have eb : vs = ks.map kV := keysOf_rv rv1 hk
    exact hQ _ _ ⟨.key ks, S1, μ1, g1.trans (grow_new r1 hp), rp_new r1 hp, .key (by rw [← eb]; exact upd_same), q⟩
  | .lrg m a b, X, sc, e, hx, h => by
    cases e <;> first | (simp [okE] at h; done) | skip
    rename_i f as ks p
    cases f <;> first | (simp [okE] at h; done) | skip
    match as, ks, h with
    | [z], [], h =>
      cases z <;> first | (simp [okE] at h; done) | skip
      rename_i f2 as2 ks2 p2
      cases f2 <;> first | (simp [okE] at h; done) | skip
      match as2, ks2, h with
      | [a', b'], [], h =>
        simp only [okE, Bool.and_eq_true, beq_iff_eq] at h
        obtain ⟨⟨⟨⟨⟨⟨⟨h1, h2⟩, h3⟩, h4⟩, h5⟩, h6⟩, h7⟩, h8⟩ := h
        subst h1 h4
        refine DE.mk (pe_listRg hx.calm (gl_of hx h2) (hx.tab.bi _ (by simpa using h3)) (prg_2 (gl_of hx h5) (hx.tab.bi _ (by simpa using h6)) (sE a a' hx h7) (sE b b' hx h8) (star_of h7) (star_of h8) (by rw [star_of h8]; rfl))) fun η μ ρ S σ H Q QD hE hR hT hQ => ?_
        simp only [wpE] at hT
        refine use hE hR hT fun d S1 v μ1 H1 g1 r1 e1 rv1 q1 => use e1 r1 q1 fun d2 S2 v2 μ2 H2 g2 r2 e2 rv2 q2 => ?_
        obtain ⟨i, j, rfl, rfl, s1, s2, hz, q⟩ := q2
        cases rv1; cases rv2
        refine ⟨i, j, rfl, rfl, ⟨s1.1, s1.2, s2.1, s2.2, by omega⟩, fun p hp => hQ _ _ ((new_lst r2 (rg_rv i j) q p hp).from (g1.trans g2))⟩
      | [], _, h => simp [okE] at h
      | [_], _, h => simp [okE] at h
      | _ :: _ :: _ :: _, _, h => simp [okE] at h
      | [_, _], _ :: _, h => simp [okE] at h
    | [], _, h => simp [okE] at h
    | _ :: _ :: _, _, h => simp [okE] at h
    | [_], _ :: _, h => simp [okE] at h
  | .kix a i, X, sc, e, hx, h => by
    cases e <;> first | (simp [okE] at h; done) | skip
    simp only [okE, Bool.and_eq_true] at h
    refine DE.mk (pe_dget (by have := hx.room.units; omega) (sE a _ hx h.1.1) (sE i _ hx h.1.2) (nosl_of h.2)) fun η μ ρ S σ H Q QD hE hR hT hQ => ?_
    simp only [wpE] at hT
    refine use hE hR hT fun d S1 v μ1 H1 g1 r1 e1 rv1 q1 => use e1 r1 q1 fun d2 S2 v2 μ2 H2 g2 r2 e2 rv2 q2 => ?_
    obtain ⟨n, kvs, k, w, rfl, hd, hk, hw, q⟩ := q2
    obtain ⟨a1, vs, rfl, ha, qk⟩ := dkk_of r2 (rv1.ext g2.ext) hd
    obtain ⟨w', hw', rw'⟩ := (qk.val k).1 w hw
    refine ⟨a1, w', rfl, .inl ⟨vs, k, ha, keyOf_rv rv2 hk, hw'.symm⟩, hQ _ _ (((stay r2 rw' q).from g2).from g1)⟩
  | .kget a i x, X, sc, e, hx, h => by
    unfold okE at h
    split at h <;> first | (cases h; done) | (rename_i hq; cases hq; done) | skip
    rename_i hq; cases hq
    rename_i o m ap i' x' cp
    simp only [Bool.and_eq_true, beq_iff_eq] at h
    obtain ⟨⟨⟨⟨⟨h1, h2⟩, h3⟩, h4⟩, h6⟩, h7⟩ := h
    subst h1
    have hs1 := star_of (env := X.env) (es := [x']) h4
    have hs2 := star_of (env := X.env) (es := []) h6
    refine DE.mk (pe_dget2 (by have := hx.room.units; omega) (sE a _ hx h3) (sE i _ hx h4) (sE x _ hx h6) ⟨base_of h7, by rw [hs1, hs2]; rfl, by simpa using h2, by rw [hs1, hs2]; rfl⟩) fun η μ ρ S σ H Q QD hE hR hT hQ => ?_
    simp only [wpE] at hT
    refine use hE hR hT fun d S1 v μ1 H1 g1 r1 e1 rv1 q1 => ?_
    obtain ⟨n, rfl, ⟨kvs0, hd⟩, q1⟩ := q1
    obtain ⟨a1, vs0, rfl, ha, qk⟩ := dkk_of r1 rv1 hd
    refine ⟨a1, rfl, .inl ⟨_, ha⟩, ?_⟩
    refine use e1 r1 q1 fun y S2 v2 μ2 H2 g2 r2 e2 rv2 q2 => use e2 r2 q2 fun z S4 w μ4 H4 g4 r4 e4 rv4 q4 => ?_
    obtain ⟨kvs, k, hd4, hk, q⟩ := q4
    obtain ⟨a2, vs4, e5, ha4, qk4⟩ := dkk_of r4 ((rv1.ext g2.ext).ext g4.ext) hd4
    cases e5
    refine ⟨valV vs4 k, .inl ⟨vs4, k, ha4, keyOf_rv rv2 hk, rfl⟩, ?_⟩
    have rr : RV X.K H4 η μ4 ((valD kvs k).getD z) ((valV vs4 k).getD w) := by
      have hv := qk4.val k
      cases e6 : valD kvs k with
      | none => rw [hv.2 e6]; exact rv4
      | some d6 => obtain ⟨v6, e7, r7⟩ := hv.1 d6 e6; rw [e7]; exact r7
    exact hQ _ _ (((stay r4 rr q).from g4).from g2 |>.from g1)
  | .dcomp key val tg it own, X, sc, e, hx, h => by
    cases e <;> first | (simp [okE] at h; done) | skip
    rename_i key' val' gs scope p
    match gs, h with
    | [⟨tg', it', ifs', as⟩], h =>
      by_cases ha : as = 0 ∧ ifs' = []
      · obtain ⟨rfl, rfl⟩ := ha
        simp only [okE, Bool.and_eq_true] at h
        obtain ⟨⟨⟨⟨⟨⟨⟨h1, h2⟩, h2'⟩, h3⟩, h4⟩, h5⟩, h6⟩, h9⟩ := h
        have ok := blkOk_by h1
        have hok : BlkOk X.N X.env.scope scope (own.map fun i => (N.getD i "", i)) := by rw [hx.nm, hx.scp]; exact ok
        have hown : (own.map fun i => ((N.getD i "", i) : Str × Nat)).map (·.2) = own := by rw [List.map_map]; exact List.map_id _
        have P := pe_dc (pos := p) (kx := key') (vx := val') (ifs := []) (tg := tg') (iter := it') (scope := scope) (g := gS X.K tg) (tt := tYes) (tk := tOf X.K (wpE G key)) (tv := tOf X.K (wpE G val)) hx.calm (by rw [hx.nm]; exact hx.nd) (sI it _ _ hx h6 (pairs_of h9)) hok (fun s H C cl fp => sT tg _ (hx.blk ok.kind s H C cl fp) h3 h4) (fun s H C cl fp => pts_nil)
          (fun s H C cl fp => sE key _ (hx.blk ok.kind s H C cl fp) h2) (fun s H C cl fp => sE val _ (hx.blk ok.kind s H C cl fp) h2') (sI_fold it _ h6)
        rw [hown] at P
        refine DE.mk P fun η μ ρ S σ H Q QD hE hR hT hQ => ?_
        exact dc_of hE hR h4 (fun i hi => by simpa using List.all_eq_true.mp h5 i hi) hT hQ
      · exfalso
        unfold okE at h
        split at h <;> first | (cases h; done) | skip
        all_goals first | (exact ha ⟨rfl, rfl⟩) | (rename_i e1 e2; cases e1; exact ha ⟨rfl, rfl⟩) | simp_all
    | [], h => simp [okE] at h
    | _ :: _ :: _, h => simp [okE] at h
  | .dlit ks es, X, sc, e, hx, h => by
    cases e <;> first | (simp [okE] at h; done) | skip
    rename_i keys values p
    simp only [okE, Bool.and_eq_true, decide_eq_true_eq] at h
    obtain ⟨⟨h1, h2⟩, h3⟩ := h
    obtain ⟨trs, P, hall, hlk, hlv, use'⟩ := sPs es ks keys values p hx h1
    have hk0 : keys ≠ [] := fun z => h2 (List.eq_nil_of_length_eq_zero (by rw [hlk, z]; rfl))
    refine DE.mk (pe_disp P hall (by rw [← hlk, hlv]) hk0 (by rw [← hlk]; exact h3)) fun η μ ρ S σ H Q QD hE hR hT hQ => ?_
    simp only [wpE] at hT
    intro p hp
    have g0 := grow_cell (o := .dK []) hR hp
    have r0 := rp_cellK hR hp .nil
    refine use' η _ ρ _ σ _ _ _ (hE.ext g0.ext) r0 hT fun ds vs S1 μ1 H1 g1 r1 rv1 hl q1 => ?_
    obtain ⟨hc, q⟩ := q1
    have rvp : RV X.K H1 η μ1 (.ref S.length) (.ref p) := (rv_cell hR).ext g1.ext
    have rvp' := rvp
    cases rvp' with
    | ref hn =>
      obtain ⟨a', ha', ws, hw, qs⟩ := r1.cell _ _ hc
      rw [hn] at ha'; cases ha'
      cases qs
      refine ⟨hw, (ks.map Sum.inr).zip vs, ?_, ?_, ?_⟩
      · rw [List.zip_map_left, List.zip_map_left, List.map_map]; rfl
      · rw [List.length_zip]; simp; omega
      · have gg := grow_set (o := .dK (mergeK [] ((ks.map Sum.inr).zip vs))) r1 hn hw
        exact hQ _ _ ⟨_, _, _, (g0.trans g1).trans gg, rp_setK r1 hn hw (rks_merge (rks_zip (ks.map Sum.inr) rv1) .nil), rvp.ext gg.ext, q⟩
  | .popE a, X, sc, e, hx, h => by
    unfold okE at h
    split at h <;> first | (cases h; done) | (rename_i hq; cases hq; done) | skip
    rename_i hq; cases hq
    rename_i o m ap cp
    simp only [Bool.and_eq_true, beq_iff_eq] at h
    obtain ⟨⟨⟨h1, h2⟩, h3⟩, h5⟩ := h
    subst h1
    refine DE.mk (pe_bm0 PySem.F.plainAttrs_list PySem.F.slot_list_pop PySem.F.type_list_pop mt_pop (sE a _ hx h3) (base_of h5) (by simpa using h2)) fun η μ ρ S σ H Q QD hE hR hT hQ => ?_
    simp only [wpE] at hT
    refine use hE hR hT fun d S1 v μ1 H1 g1 r1 e1 rv1 q1 => ?_
    obtain ⟨n, xs, y, rfl, ec, q⟩ := q1
    cases rv1 with
    | @ref n a1 hn1 =>
      obtain ⟨a3, ha3, ws, hw, qs⟩ := r1.cell n _ ec
      rw [hn1] at ha3; cases ha3
      have hlen := qs.length
      refine ⟨.inl ⟨rfl, _, .inl (.inl hw)⟩, ?_⟩
      obtain ⟨u, hu, ru⟩ := qs.get (i := xs.length) (d := y) (by simp)
      refine ⟨a1, ws, u, rfl, rfl, hw, by rw [← hlen]; simpa using hu, ?_⟩
      have gg := grow_set (o := .lst ws.dropLast) r1 hn1 hw
      have qd : RVs X.K H1 η μ1 xs ws.dropLast := by
        have := qs.take xs.length
        rw [List.take_left'] at this
        · rw [List.dropLast_eq_take, ← hlen]; simpa using this
        · rfl
      exact hQ _ _ ⟨y, _, μ1, g1.trans gg, rp_set r1 hn1 hw qd, ru.ext gg.ext, q⟩
  | .lz m a b, X, sc, e, hx, h => by
    cases e <;> first | (simp [okE] at h; done) | skip
    rename_i f as ks p
    cases f <;> first | (simp [okE] at h; done) | skip
    match as, ks, h with
    | [.Call (.Name y p1) [a', b'] [] p2], [], h =>
      simp only [okE, Bool.and_eq_true, beq_iff_eq] at h
      obtain ⟨⟨⟨⟨⟨⟨⟨h1, h2⟩, h3⟩, h4⟩, h5⟩, h6⟩, h7⟩, h8⟩ := h
      subst h1 h4
      refine DE.mk (pe_listZip hx.calm (gl_of hx h2) (hx.tab.bi _ (by simpa using h3)) (gl_of hx h5) (hx.tab.bi _ (by simpa using h6)) (pa_cons (sE a a' hx h7) (pa_cons (sE b b' hx h8) pa_nil (star_of h8)) (star_of h7)) (star_of h7) (by rw [star_of h8]; rfl)) fun η μ ρ S σ H Q QD hE hR hT hQ => ?_
      simp only [wpE] at hT
      refine use hE hR hT fun d S1 v μ1 H1 g1 r1 e1 rv1 q1 => use e1 r1 q1 fun d2 S2 v2 μ2 H2 g2 r2 e2 rv2 q2 => ?_
      exact listZip_of r2 (rv1.ext g2.ext) rv2 q2 fun v H' P => hQ v H' (P.from (g1.trans g2))
    | [], _, h => simp [okE] at h
    | _ :: _ :: _, _, h => simp [okE] at h
    | [_], _ :: _, h => simp [okE] at h
  | .rev a, X, sc, e, hx, h => by
    cases e <;> first | (simp [okE] at h; done) | skip
    rename_i o sl p
    cases sl <;> first | (simp [okE] at h; done) | skip
    rename_i lo hi st p2
    cases lo <;> cases hi <;> first | (simp [okE] at h; done) | skip
    cases st <;> first | (simp [okE] at h; done) | skip
    rename_i st
    cases st <;> first | (simp [okE] at h; done) | skip
    rename_i op cst p3
    cases op <;> cases cst <;> first | (simp [okE] at h; done) | skip
    rename_i cv ck p4
    unfold okE at h
    split at h <;> first | (cases h; done) | skip
    all_goals try (rename_i e1; cases e1)
    all_goals try (rename_i e1; cases e1)
    refine DE.mk (pe_revT (sE a _ hx h)) fun η μ ρ S σ H Q QD hE hR hT hQ => ?_
    simp only [wpE] at hT
    refine use hE hR hT fun d S1 v μ1 H1 g1 r1 e1 rv1 q1 => ?_
    obtain ⟨xs, rfl, q⟩ := q1
    cases rv1 with
    | tup hh qq => exact ⟨_, _, rfl, hh, fun p hp => hQ _ _ ((new_tup r1 (rev_of qq) q p hp).from g1)⟩
  | .dget2 a es x, X, sc, e, hx, h => by
    unfold okE at h
    split at h <;> first | (cases h; done) | (rename_i hq; cases hq; done) | skip
    rename_i hq; cases hq
    rename_i o m ap es' tk tp x' cp
    simp only [Bool.and_eq_true, beq_iff_eq, decide_eq_true_eq] at h
    obtain ⟨⟨⟨⟨⟨⟨h1, h2⟩, h3⟩, h4⟩, h5⟩, h6⟩, h7⟩ := h
    subst h1
    have ht : okE T N sc (.tup es) (.Tuple es' tk tp) = true := by simp only [okE, h4, Bool.true_and, decide_eq_true_eq]; exact h5
    have hs1 := star_of (env := X.env) (es := [x']) ht
    have hs2 := star_of (env := X.env) (es := []) h6
    refine DE.mk (pe_dget2 (by have := hx.room.units; omega) (sE a _ hx h3) (pe_tup (sEs es _ hx h4)) (sE x _ hx h6) ⟨base_of h7, by rw [hs1, hs2]; rfl, by simpa using h2, by rw [hs1, hs2]; rfl⟩) fun η μ ρ S σ H Q QD hE hR hT hQ => ?_
    simp only [wpE] at hT
    refine use hE hR hT fun d S1 v μ1 H1 g1 r1 e1 rv1 q1 => ?_
    obtain ⟨n, rfl, ⟨kvs0, hd⟩, q1⟩ := q1
    obtain ⟨a1, vs0, rfl, ha, qk⟩ := dct_of r1 rv1 hd
    refine ⟨a1, rfl, .inr ⟨_, ha⟩, ?_⟩
    refine useA e1 r1 q1 fun ys S2 vs μ2 H2 g2 r2 e2 rv2 hl q2 => ⟨?_, fun p hp => ?_⟩
    · have : (1000 : Nat) ≤ sizeLine := by decide
      omega
    have g3 := grow_new (o := .tup vs) r2 hp
    have r3 := rp_new (o := .tup vs) r2 hp
    refine use (e2.ext g3.ext) r3 q2 fun z S4 w μ4 H4 g4 r4 e4 rv4 q4 => ?_
    obtain ⟨kvs, ks, hd4, hk, q⟩ := q4
    have eb : vs = ks.map kV := keysOf_rv rv2 hk
    have rv1' : RV X.K H4 η μ4 (.ref n) (.ref a1) := ((rv1.ext g2.ext).ext g3.ext).ext g4.ext
    obtain ⟨a2, vs4, e5, ha4, qk4⟩ := dct_of r4 rv1' hd4
    cases e5
    refine ⟨valV vs4 ks, .inr ⟨vs4, ks, p, ha4, rfl, by rw [← eb]; exact g4.tup _ _ upd_same, rfl⟩, ?_⟩
    have rr : RV X.K H4 η μ4 ((valD kvs ks).getD z) ((valV vs4 ks).getD w) := by
      have hv := qk4.val ks
      cases e6 : valD kvs ks with
      | none => rw [hv.2 e6]; exact rv4
      | some d6 => obtain ⟨v6, e7, r7⟩ := hv.1 d6 e6; rw [e7]; exact r7
    exact hQ _ _ ((((stay r4 rr q).from g4).from g3).from g2 |>.from g1)
  | .tindex i e0, X, sc, e, hx, h => by
    unfold okE at h
    split at h <;> first | (cases h; done) | (rename_i hq; cases hq; done) | skip
    rename_i hq; cases hq
    rename_i x px m ap e' cp
    simp only [Bool.and_eq_true, beq_iff_eq] at h
    obtain ⟨⟨⟨h1, h2⟩, ⟨h3, h31⟩, h32⟩, h4⟩ := h
    subst h1
    obtain ⟨u0, v0, hm, hv, rv0, hk⟩ := hx.tab.gl i x h31
    refine DE.mk (pe_bm PySem.F.plainAttrs_tuple PySem.F.slot_tuple_index PySem.F.type_tuple_index mt_tup_index (pe_glob (gl_of hx h3) hm hv (dbg_of h32).1) (pa1 (sE e0 _ hx h4) (star_of h4)) rfl (by rw [star_of h4]; rfl) (by simpa using h2) (star_of h4) rfl) fun η μ ρ S σ H Q QD hE hR hT hQ => ?_
    simp only [wpE] at hT
    obtain ⟨ys, ey, q1⟩ := hT
    have rv1 := rv0 H η μ
    rw [ey] at rv1
    cases rv1 with
    | @tup a1 xs _ h6 q6 =>
      obtain ⟨ko, kl, kc, kd⟩ := hk a1 rfl
      refine ⟨.inr (.inl ⟨rfl, ko, kl, kc, kd⟩), ?_⟩
      refine useA (QD := fun ds S2 => ∃ z j, ds.headD .non = .str z ∧ ys[j]? = some z ∧ (∀ m, m < j → ys[m]? ≠ some z) ∧ QD (.int (j : Nat)) S2) hE hR q1 fun ds S2 vs μ2 H2 g2 r2 e2 rv2 hl q2 => ?_
      obtain ⟨y, u, rfl, rfl, ru⟩ := one_of rv2 hl
      obtain ⟨z, j, ez, hj, hm, q⟩ := q2
      have ez' : y = .str z := ez
      subst ez'
      cases ru
      have e7 : xs = ys.map V.str := strs_of q6
      subst e7
      exact ⟨a1, ys, z, j, rfl, rfl, SqT.ext (g2.ext (η := η)) h6, hj, hm, hQ _ _ ((stay r2 (.int _) q).from g2)⟩
  | .lc m elt tg it ifs own, X, sc, e, hx, h => by
    cases e <;> first | (simp [okE] at h; done) | skip
    rename_i elt' gs scope p
    match gs, h with
    | [⟨tg', it', ifs', as⟩], h =>
      by_cases ha : as = 0
      · subst ha
        simp only [okE, Bool.and_eq_true] at h
        obtain ⟨⟨⟨⟨⟨⟨⟨⟨h1, h2⟩, h3⟩, h4⟩, h5⟩, h6⟩, h7⟩, h8⟩, h9⟩ := h
        have ok := blkOk_by h1
        have hok : BlkOk X.N X.env.scope scope (own.map fun i => (N.getD i "", i)) := by rw [hx.nm, hx.scp]; exact ok
        have hown : (own.map fun i => ((N.getD i "", i) : Str × Nat)).map (·.2) = own := by rw [List.map_map]; exact List.map_id _
        have P := pe_lc (pos := p) (elt := elt') (ifs := ifs') (tg := tg') (iter := it') (scope := scope) (g := gS X.K tg) (tt := bOf X.K (wpBs G ifs)) (te := tOf X.K (wpE G elt)) hx.calm (by rw [hx.nm]; exact hx.nd) (sI it _ _ hx h6 (pairs_of h9)) hok (fun s H C cl fp => sT tg _ (hx.blk ok.kind s H C cl fp) h3 h4) (fun s H C cl fp => sBs ifs _ (hx.blk ok.kind s H C cl fp) h7 (by simpa using h8))
          (fun s H C cl fp => sE elt _ (hx.blk ok.kind s H C cl fp) h2) (sI_fold it _ h6)
        rw [hown] at P
        refine DE.mk P fun η μ ρ S σ H Q QD hE hR hT hQ => ?_
        exact lc_of hE hR h4 (fun i hi => by simpa using List.all_eq_true.mp h5 i hi) hT hQ
      · simp [okE, ha] at h
    | [], h => simp [okE] at h
    | _ :: _ :: _, h => simp [okE] at h
  | .lc2 m elt tg it tg1 it1 own own1, X, sc, e, hx, h => by
    cases e <;> first | (simp [okE] at h; done) | skip
    rename_i elt' gs scope p
    match gs, h with
    | [⟨tg', it', ifs', as⟩, ⟨tg1', it1', ifs1', as1⟩], h =>
      by_cases ha : as = 0 ∧ as1 = 0 ∧ ifs' = [] ∧ ifs1' = []
      · obtain ⟨rfl, rfl, rfl, rfl⟩ := ha
        simp only [okE, Bool.and_eq_true] at h
        obtain ⟨⟨⟨⟨⟨⟨⟨⟨⟨⟨⟨⟨h1, h2⟩, h3⟩, h4⟩, h5⟩, h6⟩, h7⟩, h8⟩, h9⟩, h10⟩, h11⟩, h12⟩, h13⟩ := h
        have ok := blkOk_by h1
        have hok : BlkOk X.N X.env.scope scope (own.map fun i => (N.getD i "", i)) := by rw [hx.nm, hx.scp]; exact ok
        have hown : (own.map fun i => ((N.getD i "", i) : Str × Nat)).map (·.2) = own := by rw [List.map_map]; exact List.map_id _
        have P := pe_lc2 (pos := p) (elt := elt') (ifs := []) (ifs1 := []) (tg := tg') (iter := it') (tg1 := tg1') (iter1 := it1') (scope := scope) (vs1 := own1) (g := gS X.K tg) (g1 := gS X.K tg1) (tt := tYes) (tt1 := tYes) (wi1 := iOf X.K (wpI G it1)) (te := tOf X.K (wpE G elt)) hx.calm (by rw [hx.nm]; exact hx.nd) (sI it _ _ hx h6 (pairs_of h7)) hok
          (fun i hi => by rw [hown]; simpa using List.all_eq_true.mp h13 i hi)
          (fun s H C cl fp => sT tg _ (hx.blk ok.kind s H C cl fp) h3 h4) (fun s H C cl fp => pts_nil)
          (fun s H C cl fp => sI it1 _ _ (hx.blk ok.kind s H C cl fp) h11 (pairs_of h12))
          (fun s H C cl fp => sT tg1 _ (hx.blk ok.kind s H C cl fp) h8 h9) (fun s H C cl fp => pts_nil)
          (fun s H C cl fp => sE elt _ (hx.blk ok.kind s H C cl fp) h2) (sI_fold it _ h6) (fun env => sI_fold it1 _ h11)
        rw [hown] at P
        refine DE.mk P fun η μ ρ S σ H Q QD hE hR hT hQ => ?_
        exact lc2_of hE hR h4 (fun i hi => by simpa using List.all_eq_true.mp h5 i hi) h9 (fun i hi => by simpa using List.all_eq_true.mp h10 i hi) hT hQ
      · exfalso
        unfold okE at h
        split at h <;> first | (cases h; done) | skip
        all_goals first | (exact ha ⟨rfl, rfl, rfl, rfl⟩) | (rename_i e1 e2; cases e1; exact ha ⟨rfl, rfl, rfl, rfl⟩) | simp_all
    | [], h => simp [okE] at h
    | [_], h => simp [okE] at h
    | _ :: _ :: _ :: _, h => simp [okE] at h
theorem sEs : ∀ (cs : List CE) {X : Cx} {sc : SS} (es : List Expr), Here T G k N X sc → okEs T N sc cs es = true → PA X es (aOf X.K cs.length (wpEs G cs))
  | [], X, sc, es, hx, h => by
    cases es with
    | cons _ _ => simp [okEs] at h
    | nil =>
      refine PA.imp pa_nil fun σ H Q ⟨η, μ, ρ, S, QD, hE, hR, hT, hQ⟩ => ?_
      simp only [wpEs] at hT
      exact hQ [] H ⟨[], S, μ, .refl, hR, .nil, hT⟩ rfl
  | c :: cs, X, sc, es, hx, h => by
    cases es with
    | nil => simp [okEs] at h
    | cons e es =>
      simp only [okEs, Bool.and_eq_true] at h
      refine PA.imp (pa_cons (sE c e hx h.1) (sEs cs es hx h.2) (star_of h.1)) fun σ H Q ⟨η, μ, ρ, S, QD, hE, hR, hT, hQ⟩ => ?_
      simp only [wpEs] at hT
      refine use hE hR hT fun d S1 v μ1 H1 g1 r1 e1 rv1 q1 => useA e1 r1 q1 fun ds S2 vs μ2 H2 g2 r2 e2 rv2 hl q2 => ?_
      exact hQ _ _ ⟨d :: ds, S2, μ2, g1.trans g2, r2, .cons (rv1.ext g2.ext) rv2, q2⟩ (by simp [hl])
theorem sPs : ∀ (cs : List CE) (ks : List Str) {X : Cx} {sc : SS} (keys : List (Option Expr)) (es : List Expr) (pos : Pos), Here T G k N X sc → okDs T N sc ks cs keys es = true →
    ∃ trs, PPs X pos keys es trs ∧ keys.all (·.isSome) = true ∧ ks.length = keys.length ∧ ks.length = es.length ∧
      ∀ η μ ρ S σ H QD (Q : List (V × V) → Hp → Prop), RE X.K H η μ ρ σ → Rp X.K η μ S H → wpEs G cs ρ S QD → (∀ ds vs S' μ' H', Grow μ H μ' H' → Rp X.K η μ' S' H' → RVs X.K H' η μ' ds vs → vs.length = ks.length → QD ds S' → Q ((ks.map V.str).zip vs) H') → tPairs trs σ H Q
  | [], ks, X, sc, keys, es, pos, hx, h => by
    match ks, keys, es, h with
    | [], [], [], _ =>
      refine ⟨[], pps_nil, rfl, rfl, rfl, fun η μ ρ S σ H QD Q hE hR hT hQ => ?_⟩
      simp only [wpEs] at hT
      exact hQ [] [] S μ H .refl hR .nil rfl hT
    | _ :: _, _, _, h => simp [okDs] at h
    | [], _ :: _, _, h => simp [okDs] at h
    | [], [], _ :: _, h => simp [okDs] at h
  | c :: cs, ks, X, sc, keys, es, pos, hx, h => by
    match ks, keys, es, h with
    | [], _, _, h => simp [okDs] at h
    | _ :: _, [], _, h => simp [okDs] at h
    | _ :: _, none :: _, _, h => simp [okDs] at h
    | _ :: _, some _ :: _, [], h => simp [okDs] at h
    | x :: ks, some kx :: keys, e :: es, h =>
      cases kx <;> first | (simp [okDs] at h; done) | skip
      rename_i cst kk kp
      cases cst <;> first | (simp [okDs] at h; done) | skip
      simp only [okDs, Bool.and_eq_true, beq_iff_eq] at h
      obtain ⟨⟨h1, h2⟩, h3⟩ := h
      subst h1
      obtain ⟨trs, P, hall, hl1, hl2, use'⟩ := sPs cs ks keys es pos hx h3
      refine ⟨_, pps_cons pe_str (sE c e hx h2) P, by simp [hall], by simp [hl1], by simp [hl2], fun η μ ρ S σ H QD Q hE hR hT hQ => ?_⟩
      simp only [wpEs] at hT
      refine use hE hR hT fun d S1 v μ1 H1 g1 r1 e1 rv1 q1 => use' η μ1 ρ S1 σ H1 _ _ e1 r1 q1 fun ds vs S' μ' H' g' r' rv' hl' q' => ?_
      exact hQ (d :: ds) (v :: vs) S' μ' H' (g1.trans g') r' (.cons (rv1.ext g'.ext) rv') (by simp [hl']) q'
theorem sKs : ∀ (cs : List CE) {X : Cx} {sc : SS} (ks : List Keyword), Here T G k N X sc → okKs T N sc cs ks = true → PK X ks (aOf X.K cs.length (wpEs G cs))
  | [], X, sc, es, hx, h => by
    cases es with
    | cons _ _ => simp [okKs] at h
    | nil =>
      refine PK.imp pk_nil fun σ H Q ⟨η, μ, ρ, S, QD, hE, hR, hT, hQ⟩ => ?_
      simp only [wpEs] at hT
      exact hQ [] H ⟨[], S, μ, .refl, hR, .nil, hT⟩ rfl
  | c :: cs, X, sc, es, hx, h => by
    cases es with
    | nil => simp [okKs] at h
    | cons e es =>
      obtain ⟨n, e, p⟩ := e
      simp only [okKs, Bool.and_eq_true] at h
      refine PK.imp (pk_cons (sE c e hx h.1.2) (sKs cs es hx h.2)) fun σ H Q ⟨η, μ, ρ, S, QD, hE, hR, hT, hQ⟩ => ?_
      simp only [wpEs] at hT
      refine use hE hR hT fun d S1 v μ1 H1 g1 r1 e1 rv1 q1 => useA e1 r1 q1 fun ds S2 vs μ2 H2 g2 r2 e2 rv2 hl q2 => ?_
      exact hQ _ _ ⟨d :: ds, S2, μ2, g1.trans g2, r2, .cons (rv1.ext g2.ext) rv2, q2⟩ (by simp [hl])
theorem sO : ∀ (c : CO) {X : Cx} {sc : SS} (e : Option Expr), Here T G k N X sc → okO T N sc c e = true → PO X e (bOf X.K (wpO G c))
  | .no, X, sc, e, hx, h => by
    cases e with
    | some _ => simp [okO] at h
    | none =>
      refine PO.imp po_none fun σ H Q ⟨η, μ, ρ, S, QD, hE, hR, hT, hQ⟩ => ?_
      simp only [wpO] at hT
      exact hQ none H ⟨S, μ, .refl, hR, hT⟩
  | .yes c, X, sc, e, hx, h => by
    cases e with
    | none => simp [okO] at h
    | some e =>
      simp only [okO] at h
      refine PO.imp (po_some (sE c e hx h)) fun σ H Q ⟨η, μ, ρ, S, QD, hE, hR, hT, hQ⟩ => ?_
      simp only [wpO] at hT
      refine use hE hR hT fun d S1 v μ1 H1 g1 r1 e1 rv1 q1 => ?_
      obtain ⟨i, rfl, q⟩ := q1
      cases rv1
      exact ⟨i, rfl, hQ _ _ ⟨S1, μ1, g1, r1, q⟩⟩
theorem sB : ∀ (c : CB) {X : Cx} {sc : SS} (e : Expr), Here T G k N X sc → okB T N sc c e = true → PT X e (bOf X.K (wpB G c))
  | .cand a b, X, sc, e, hx, h => by
    cases e <;> first | (simp [okB] at h; done) | skip
    rename_i op vs p
    match op, vs, h with
    | .And, a' :: b' :: r, h =>
      simp only [okB, Bool.and_eq_true] at h
      have hb : PW X (.BoolOp .And (b' :: r) p) (bOf X.K (wpB G b)) := by
        cases r with
        | nil => exact pw_and1 (sB b _ hx h.2)
        | cons c' r' => exact bool_ext (sB b _ hx h.2)
      refine PT.imp (pw_and (sB a _ hx h.1) hb).pt fun σ H Q ⟨η, μ, ρ, S, QD, hE, hR, hT, hQ⟩ => ?_
      simp only [wpB] at hT
      refine useB hE hR hT fun c S1 μ1 H1 g1 r1 e1 q1 => ?_
      cases c with
      | true =>
        simp only [if_true] at q1 ⊢
        exact ⟨_, _, _, _, _, e1, r1, q1, fun v H' ⟨S2, μ2, g2, r2, q2⟩ => hQ _ _ ⟨S2, μ2, g1.trans g2, r2, q2⟩⟩
      | false =>
        simp only [Bool.false_eq_true, if_false] at q1 ⊢
        exact hQ _ _ ⟨S1, μ1, g1, r1, q1⟩
    | .And, [], h => simp [okB] at h
    | .And, [_], h => simp [okB] at h
    | .Or, _, h => simp [okB] at h
  | .cor a b, X, sc, e, hx, h => by
    cases e <;> first | (simp [okB] at h; done) | skip
    rename_i op vs p
    match op, vs, h with
    | .Or, a' :: b' :: r, h =>
      simp only [okB, Bool.and_eq_true] at h
      have hb : PW X (.BoolOp .Or (b' :: r) p) (bOf X.K (wpB G b)) := by
        cases r with
        | nil => exact pw_or1 (sB b _ hx h.2)
        | cons c' r' => exact bool_ext (sB b _ hx h.2)
      refine PT.imp (pw_or (sB a _ hx h.1) hb).pt fun σ H Q ⟨η, μ, ρ, S, QD, hE, hR, hT, hQ⟩ => ?_
      simp only [wpB] at hT
      refine useB hE hR hT fun c S1 μ1 H1 g1 r1 e1 q1 => ?_
      cases c with
      | false =>
        simp only [Bool.false_eq_true, if_false] at q1 ⊢
        exact ⟨_, _, _, _, _, e1, r1, q1, fun v H' ⟨S2, μ2, g2, r2, q2⟩ => hQ _ _ ⟨S2, μ2, g1.trans g2, r2, q2⟩⟩
      | true =>
        simp only [if_true] at q1 ⊢
        exact hQ _ _ ⟨S1, μ1, g1, r1, q1⟩
    | .Or, [], h => simp [okB] at h
    | .Or, [_], h => simp [okB] at h
    | .And, _, h => simp [okB] at h
  | .cnot a, X, sc, e, hx, h => by
    cases e <;> first | (simp [okB] at h; done) | skip
    rename_i op x p
    cases op <;> first | (simp [okB] at h; done) | skip
    simp only [okB] at h
    refine PT.imp (pt_not (sB a _ hx h)) fun σ H Q ⟨η, μ, ρ, S, QD, hE, hR, hT, hQ⟩ => ?_
    simp only [wpB] at hT
    exact useB hE hR hT fun c S1 μ1 H1 g1 r1 e1 q1 => hQ _ _ ⟨S1, μ1, g1, r1, q1⟩
  | .ccmp op a b, X, sc, e, hx, h => by
    cases e <;> first | (simp [okB] at h; done) | skip
    rename_i l ops cs p
    match ops, cs, h with
    | [op'], [b'], h =>
      simp only [okB, Bool.and_eq_true, beq_iff_eq] at h
      obtain ⟨⟨h1, h2⟩, h3⟩ := h
      subst h1
      obtain ⟨r, ho, hr⟩ := cmpR (X := X) hx.room.units op
      refine PT.imp (pt_cmpR ho (sE a _ hx h2) (sE b _ hx h3) (mark_of h3)) fun σ H Q ⟨η, μ, ρ, S, QD, hE, hR, hT, hQ⟩ => ?_
      simp only [wpB] at hT
      refine use hE hR hT fun d S1 v μ1 H1 g1 r1 e1 rv1 q1 => use e1 r1 q1 fun d2 S2 v2 μ2 H2 g2 r2 e2 rv2 q2 => ?_
      exact hr r2 (rv1.ext g2.ext) rv2 q2 fun b hb => ⟨b, rfl, hQ _ _ ⟨S2, μ2, g1.trans g2, r2, hb⟩⟩
    | [], _, h => simp [okB] at h
    | [_], [], h => simp [okB] at h
    | [_], _ :: _ :: _, h => simp [okB] at h
    | _ :: _ :: _, _, h => simp [okB] at h
  | .cnil a b, X, sc, e, hx, h => by
    cases e <;> first | (simp [okB] at h; done) | skip
    rename_i l ops cs p
    match ops, cs, h with
    | [op'], [b'], h =>
      cases op' <;> first | (simp [okB] at h; done) | skip
      simp only [okB, Bool.and_eq_true] at h
      obtain ⟨h2, h3⟩ := h
      refine PT.imp (pt_cmpR (op_neNil hx.room.units) (sE a _ hx h2) (sE b _ hx h3) (mark_of h3)) fun σ H Q ⟨η, μ, ρ, S, QD, hE, hR, hT, hQ⟩ => ?_
      simp only [wpB] at hT
      refine use hE hR hT fun d S1 v μ1 H1 g1 r1 e1 rv1 q1 => use e1 r1 q1 fun d2 S2 v2 μ2 H2 g2 r2 e2 rv2 q2 => ?_
      obtain ⟨rfl, xs, ex, q⟩ := q2
      obtain ⟨a1, vs1, rfl, h5, q5⟩ := lst_of r2 (rv1.ext g2.ext) ex
      obtain ⟨a2, vs2, rfl, h6, q6⟩ := lst_of r2 rv2 rfl
      cases q6
      refine ⟨a1, a2, vs1, rfl, rfl, .inl (.inl h5), .inl (.inl h6), ⟨_, rfl, hQ _ _ ⟨S2, μ2, g1.trans g2, r2, ?_⟩⟩⟩
      have : xs.isEmpty = vs1.isEmpty := by cases q5 <;> rfl
      rw [← this]; exact q
    | [], _, h => simp [okB] at h
    | [_], [], h => simp [okB] at h
    | [_], _ :: _ :: _, h => simp [okB] at h
    | _ :: _ :: _, _, h => simp [okB] at h
  | .cchain op1 op2 a b c, X, sc, e, hx, h => by
    cases e <;> first | (simp [okB] at h; done) | skip
    rename_i l ops cs p
    match ops, cs, h with
    | [o1, o2], [b', c'], h =>
      simp only [okB, Bool.and_eq_true, beq_iff_eq] at h
      obtain ⟨⟨⟨⟨h1, h2⟩, h3⟩, h4⟩, h5⟩ := h
      subst h1; subst h2
      obtain ⟨r, ho, hr⟩ := cmpR (X := X) hx.room.units op1
      obtain ⟨r', ho', hr'⟩ := cmpR (X := X) hx.room.units op2
      refine PT.imp (pt_chain ho ho' (sE a _ hx h3) (sE b _ hx h4) (sE c _ hx h5) (by show behindInMarks op2 c' = false; exact mark_of h5)) fun σ H Q ⟨η, μ, ρ, S, QD, hE, hR, hT, hQ⟩ => ?_
      simp only [wpB] at hT
      refine use hE hR hT fun d S1 v μ1 H1 g1 r1 e1 rv1 q1 => use e1 r1 q1 fun d2 S2 v2 μ2 H2 g2 r2 e2 rv2 q2 => ?_
      refine hr r2 (rv1.ext g2.ext) rv2 q2 fun b hb => ⟨b, rfl, ?_⟩
      cases b with
      | true =>
        simp only [if_true] at hb ⊢
        refine use e2 r2 hb fun d3 S3 v3 μ3 H3 g3 r3 e3 rv3 q3 => ?_
        exact hr' r3 (rv2.ext g3.ext) rv3 q3 fun b hb => ⟨b, rfl, hQ _ _ ⟨S3, μ3, (g1.trans g2).trans g3, r3, hb⟩⟩
      | false =>
        simp only [Bool.false_eq_true, if_false] at hb ⊢
        exact ⟨false, rfl, hQ _ _ ⟨S2, μ2, g1.trans g2, r2, hb⟩⟩
    | [], _, h => simp [okB] at h
    | [_], _, h => simp [okB] at h
    | [_, _], [], h => simp [okB] at h
    | [_, _], [_], h => simp [okB] at h
    | [_, _], _ :: _ :: _ :: _, h => simp [okB] at h
    | _ :: _ :: _ :: _, _, h => simp [okB] at h
  | .cval c, X, sc, e, hx, h => by
    cases e <;> first | (simp [okB] at h; done) | skip
    all_goals
      simp only [okB] at h
      refine PT.imp (pt_truth (sE c _ hx h) (by intro _; rfl)) fun σ H Q ⟨η, μ, ρ, S, QD, hE, hR, hT, hQ⟩ => ?_
      simp only [wpB] at hT
      refine use hE hR hT fun d S1 v μ1 H1 g1 r1 e1 rv1 q1 => ?_
      obtain ⟨b, h1, h2⟩ := tru_of r1 rv1 q1
      exact ⟨b, h1, hQ _ _ ⟨S1, μ1, g1, r1, h2⟩⟩
theorem sBs : ∀ (cs : List CB) {X : Cx} {sc : SS} (es : List Expr), Here T G k N X sc → okBs T N sc cs es = true → cs.length ≤ 1 → PTs X es (bOf X.K (wpBs G cs))
  | [], X, sc, es, hx, h, _ => by
    cases es with
    | cons _ _ => simp [okBs] at h
    | nil =>
      refine PTs.imp pts_nil fun σ H Q ⟨η, μ, ρ, S, QD, hE, hR, hT, hQ⟩ => ?_
      simp only [wpBs] at hT
      exact hQ true H ⟨S, μ, .refl, hR, hT⟩
  | [c], X, sc, es, hx, h, _ => by
    cases es with
    | nil => simp [okBs] at h
    | cons e es =>
      cases es with
      | cons _ _ => simp [okBs] at h
      | nil =>
        simp only [okBs, Bool.and_true] at h
        refine PTs.imp (pts_one (sB c e hx h)) fun σ H Q ⟨η, μ, ρ, S, QD, hE, hR, hT, hQ⟩ => ?_
        simp only [wpBs] at hT
        refine useB hE hR hT fun b S1 μ1 H1 g1 r1 e1 q1 => hQ _ _ ⟨S1, μ1, g1, r1, ?_⟩
        cases b <;> exact q1
  | _ :: _ :: _, X, sc, es, hx, h, hl => by simp at hl
theorem sT : ∀ (t : CT) {X : Cx} {sc : SS} (e : Expr), Here T G k N X sc → okT T N sc t e = true → CT.simple t = true → PG X e (gS X.K t)
  | .name i, X, sc, e, hx, h, _ => by
    cases e <;> first | (simp [okT] at h; done) | skip
    simp only [okT, Bool.and_eq_true] at h
    obtain ⟨h1, h2⟩ := loc_of h.1
    refine pg_name (i := i) (by rw [hx.nm]; exact hx.nd) (by rw [hx.nm]; exact lits h.2) (by rw [hx.scp]; exact h1) ?_
    rcases h2 with h2 | h2
    · exact .inl (hx.fn _ h2)
    · exact .inr (by rw [hx.scp]; exact h2)
  | .tup ts, X, sc, e, hx, h, hs => by
    cases e <;> first | (simp [okT] at h; done) | skip
    simp only [okT] at h
    obtain ⟨a, b, c⟩ := sTs ts _ hx h hs
    exact pg_or (pg_tup hx.calm a b c) (pg_lst hx.calm a b c)
  | .sub _ _, X, sc, e, hx, h, hs => by simp [CT.simple] at hs
  | .dsub _ _, X, sc, e, hx, h, hs => by simp [CT.simple] at hs
  | .ksub _ _, X, sc, e, hx, h, hs => by simp [CT.simple] at hs
theorem sTs : ∀ (ts : List CT) {X : Cx} {sc : SS} (es : List Expr), Here T G k N X sc → okTs T N sc ts es = true → CT.simple.simples ts = true → PGs X es (gSs X.K ts) ∧ (assignEach es X.env).length = ts.length ∧ (assignEach es X.env).findIdx? (·.1) = none
  | [], X, sc, es, hx, h, _ => by
    cases es with
    | cons _ _ => simp [okTs] at h
    | nil => exact ⟨pgs_nil, rfl, rfl⟩
  | t :: ts, X, sc, es, hx, h, hs => by
    cases es with
    | nil => simp [okTs] at h
    | cons e es =>
      simp only [okTs, Bool.and_eq_true] at h
      simp only [CT.simple.simples, Bool.and_eq_true] at hs
      obtain ⟨a, b, c⟩ := sTs ts es hx h.2 hs.2
      have he : assignEach (e :: es) X.env = (false, assign e X.env) :: assignEach es X.env := by
        cases e <;> first | rfl | (exfalso; cases t <;> simp [okT] at h)
      refine ⟨pgs_cons (sT t e hx h.1 hs.1) a (by rw [he]; rfl), by rw [he]; simp [b], ?_⟩
      rw [he, List.findIdx?_cons]
      simp [c]
theorem sI : ∀ (c : CI) {X : Cx} {sc : SS} (tg e : Expr), Here T G k N X sc → okI T N sc c e = true → (c.pairs = true → isTupE tg = true) → PI X tg e (iOf X.K (wpI G c))
  | .seq c, X, sc, tg, e, hx, h, _ => by
    simp only [okI] at h
    refine PI.imp (pi_seq (sE c e hx h)) fun σ H R ⟨η, μ, ρ, S, RD, hE, hR, hT, hJ⟩ => ?_
    simp only [wpI] at hT
    refine use hE hR hT fun d S1 v μ1 H1 g1 r1 e1 rv1 q1 => ?_
    exact seq_it r1 rv1 q1 fun J items I q jok => hJ J H1 items I S1 μ1 g1 r1 q jok
  | .keys c, X, sc, tg, e, hx, h, _ => by
    simp only [okI] at h
    refine PI.imp (pi_keys (sE c e hx h)) fun σ H R ⟨η, μ, ρ, S, RD, hE, hR, hT, hJ⟩ => ?_
    simp only [wpI] at hT
    refine use hE hR hT fun d S1 v μ1 H1 g1 r1 e1 rv1 q1 => ?_
    obtain ⟨n, kvs, rfl, hc, q⟩ := q1
    cases rv1 with
    | @ref n a hn =>
      obtain ⟨a', ha', ob, vs, hv, qk⟩ := r1.cell n _ hc
      rw [hn] at ha'; cases ha'
      exact ⟨a, ob, rfl, .inr ⟨vs, hv, hJ _ H1 _ _ S1 μ1 g1 r1 q (jok_keys hv qk)⟩⟩
  | .range1 a, X, sc, tg, e, hx, h, _ => by
    cases e <;> first | (simp [okI] at h; done) | skip
    rename_i f as ks p
    cases f <;> first | (simp [okI] at h; done) | skip
    match as, ks, h with
    | [a'], [], h =>
      simp only [okI, Bool.and_eq_true, beq_iff_eq] at h
      obtain ⟨⟨⟨h1, h2⟩, h3⟩, h4⟩ := h
      subst h1
      refine PI.imp (pi_range1 (gl_of hx h2) (hx.tab.bi _ (by simpa using h3)) (pa1 (sE a a' hx h4) (star_of h4)) (by rw [star_of h4]; rfl)) fun σ H R ⟨η, μ, ρ, S, RD, hE, hR, hT, hJ⟩ => ?_
      simp only [wpI] at hT
      refine useA (QD := fun ds S1 => ∃ j, ds.headD .non = .int j ∧ Sm j ∧ RD (rangeD 0 j) (fun _ => True) S1) hE hR hT fun ds S1 vs μ1 H1 g1 r1 e1 rv1 hl q1 => ?_
      obtain ⟨d, v, rfl, rfl, rv⟩ := one_of rv1 hl
      obtain ⟨j, e0, s, q⟩ := q1
      rw [List.headD_cons] at e0
      subst e0
      cases rv
      exact ⟨j, rfl, s.1, s.2, hJ _ H1 _ _ S1 μ1 g1 r1 q (jok_range (by simp))⟩
    | [], _, h => simp [okI] at h
    | _ :: _ :: _, _, h => simp [okI] at h
    | [_], _ :: _, h => simp [okI] at h
  | .range2 a b, X, sc, tg, e, hx, h, _ => by
    cases e <;> first | (simp [okI] at h; done) | skip
    rename_i f as ks p
    cases f <;> first | (simp [okI] at h; done) | skip
    match as, ks, h with
    | [a', b'], [], h =>
      simp only [okI, Bool.and_eq_true, beq_iff_eq] at h
      obtain ⟨⟨⟨⟨h1, h2⟩, h3⟩, h4⟩, h5⟩ := h
      subst h1
      refine PI.imp (pi_range2 (gl_of hx h2) (hx.tab.bi _ (by simpa using h3)) (pa2 (sE a a' hx h4) (sE b b' hx h5) (star_of h4) (star_of h5)) (by rw [star_of h4, star_of h5]; rfl) (by rw [star_of h5]; rfl)) fun σ H R ⟨η, μ, ρ, S, RD, hE, hR, hT, hJ⟩ => ?_
      simp only [wpI] at hT
      refine useA (QD := fun ds S1 => ∃ i j, ds.headD .non = .int i ∧ ds.tail.headD .non = .int j ∧ Sm i ∧ Sm j ∧ RD (rangeD i j) (fun _ => True) S1) hE hR hT fun ds S1 vs μ1 H1 g1 r1 e1 rv1 hl q1 => ?_
      obtain ⟨d, d', v, v', rfl, rfl, rv, rv2⟩ := two_of rv1 hl
      obtain ⟨i, j, e0, e2, s, s2, q⟩ := q1
      rw [List.headD_cons] at e0
      rw [List.tail_cons, List.headD_cons] at e2
      subst e0; subst e2
      cases rv; cases rv2
      exact ⟨i, j, rfl, ⟨s.1, s.2, s2.1, s2.2⟩, hJ _ H1 _ _ S1 μ1 g1 r1 q (jok_range rfl)⟩
    | [], _, h => simp [okI] at h
    | [_], _, h => simp [okI] at h
    | _ :: _ :: _ :: _, _, h => simp [okI] at h
    | [_, _], _ :: _, h => simp [okI] at h
  | .range3 a b c, X, sc, tg, e, hx, h, _ => by
    cases e <;> first | (simp [okI] at h; done) | skip
    rename_i f as ks p
    cases f <;> first | (simp [okI] at h; done) | skip
    match as, ks, h with
    | [a', b', c'], [], h =>
      simp only [okI, Bool.and_eq_true, beq_iff_eq] at h
      obtain ⟨⟨⟨⟨⟨h1, h2⟩, h3⟩, h4⟩, h5⟩, h6⟩ := h
      subst h1
      refine PI.imp (pi_range3 (gl_of hx h2) (hx.tab.bi _ (by simpa using h3)) (pa_cons (sE a a' hx h4) (pa_cons (sE b b' hx h5) (pa_cons (sE c c' hx h6) pa_nil (star_of h6)) (star_of h5)) (star_of h4)) (star_of h4) (by rw [star_of h5, star_of h6]; rfl)) fun σ H R ⟨η, μ, ρ, S, RD, hE, hR, hT, hJ⟩ => ?_
      simp only [wpI] at hT
      refine use hE hR hT fun d S1 v μ1 H1 g1 r1 e1 rv1 q1 => use e1 r1 q1 fun d2 S2 v2 μ2 H2 g2 r2 e2 rv2 q2 => use e2 r2 q2 fun d3 S3 v3 μ3 H3 g3 r3 e3 rv3 q3 => ?_
      obtain ⟨i, j, l, n, rfl, rfl, rfl, hr, q⟩ := q3
      cases rv1; cases rv2; cases rv3
      exact ⟨i, j, l, n, rfl, hr, hJ _ H3 _ _ S3 μ3 ((g1.trans g2).trans g3) r3 q jok_rangeC⟩
    | [], _, h => simp [okI] at h
    | [_], _, h => simp [okI] at h
    | [_, _], _, h => simp [okI] at h
    | _ :: _ :: _ :: _ :: _, _, h => simp [okI] at h
    | [_, _, _], _ :: _, h => simp [okI] at h
  | .kkeys c, X, sc, tg, e, hx, h, _ => by
    simp only [okI] at h
    refine PI.imp (pi_keys (sE c e hx h)) fun σ H R ⟨η, μ, ρ, S, RD, hE, hR, hT, hJ⟩ => ?_
    simp only [wpI] at hT
    refine use hE hR hT fun d S1 v μ1 H1 g1 r1 e1 rv1 q1 => ?_
    obtain ⟨n, kvs, rfl, hc, q⟩ := q1
    cases rv1 with
    | @ref n a hn =>
      obtain ⟨a', ha', ob, vs, hv, qk⟩ := r1.cell n _ hc
      rw [hn] at ha'; cases ha'
      exact ⟨a, ob, rfl, .inl ⟨vs, hv, hJ _ H1 _ _ S1 μ1 g1 r1 q (jok_kkeys hv qk)⟩⟩
  | .kitems c, X, sc, tg, e, hx, h, ht => by
    cases e <;> first | (simp [okI] at h; done) | skip
    rename_i f as ks p
    cases f <;> first | (simp [okI] at h; done) | skip
    rename_i o m ap
    cases tg <;> first | (exfalso; have hz := ht rfl; simp [isTupE] at hz; done) | skip
    match as, ks, h with
    | [], [], h =>
      simp only [okI, Bool.and_eq_true, beq_iff_eq] at h
      obtain ⟨⟨⟨h1, h2⟩, h3⟩, h4⟩ := h
      subst h1
      refine PI.imp (pi_items (sE c o hx h3) (base_of h4) (by simpa using h2)) fun σ H R ⟨η, μ, ρ, S, RD, hE, hR, hT, hJ⟩ => ?_
      simp only [wpI] at hT
      refine use hE hR hT fun d S1 v μ1 H1 g1 r1 e1 rv1 q1 => ?_
      obtain ⟨n, kvs, rfl, hc, q⟩ := q1
      cases rv1 with
      | @ref n a hn =>
        obtain ⟨a', ha', ob, vs, hv, qk⟩ := r1.cell n _ hc
        rw [hn] at ha'; cases ha'
        exact ⟨a, ob, vs, rfl, hv, hJ _ H1 _ _ S1 μ1 g1 r1 q (jok_kitems hv qk)⟩
    | _ :: _, _, h => simp [okI] at h
    | [], _ :: _, h => simp [okI] at h
  | .items c, X, sc, tg, e, hx, h, ht => by
    cases e <;> first | (simp [okI] at h; done) | skip
    rename_i f as ks p
    cases f <;> first | (simp [okI] at h; done) | skip
    rename_i o m ap
    cases tg <;> first | (exfalso; have hz := ht rfl; simp [isTupE] at hz; done) | skip
    match as, ks, h with
    | [], [], h =>
      simp only [okI, Bool.and_eq_true, beq_iff_eq] at h
      obtain ⟨⟨⟨h1, h2⟩, h3⟩, h4⟩ := h
      subst h1
      refine PI.imp (pi_itemsT (sE c o hx h3) (base_of h4) (by simpa using h2)) fun σ H R ⟨η, μ, ρ, S, RD, hE, hR, hT, hJ⟩ => ?_
      simp only [wpI] at hT
      refine use hE hR hT fun d S1 v μ1 H1 g1 r1 e1 rv1 q1 => ?_
      obtain ⟨n, kvs, rfl, hc, q⟩ := q1
      cases rv1 with
      | @ref n a hn =>
        obtain ⟨a', ha', ob, vs, hv, qk⟩ := r1.cell n _ hc
        rw [hn] at ha'; cases ha'
        exact ⟨a, ob, vs, rfl, hv, hJ _ H1 _ _ S1 μ1 g1 r1 q (jok_items hv qk)⟩
    | _ :: _, _, h => simp [okI] at h
    | [], _ :: _, h => simp [okI] at h
  | .enum a, X, sc, tg, e, hx, h, ht => by
    cases e <;> first | (simp [okI] at h; done) | skip
    rename_i f as ks p
    cases f <;> first | (simp [okI] at h; done) | skip
    cases tg <;> first | (exfalso; have hz := ht rfl; simp [isTupE] at hz; done) | skip
    match as, ks, h with
    | [a'], [], h =>
      simp only [okI, Bool.and_eq_true, beq_iff_eq] at h
      obtain ⟨⟨⟨h1, h2⟩, h3⟩, h4⟩ := h
      subst h1
      refine PI.imp (pi_enumA (gl_of hx h2) (hx.tab.bi _ (by simpa using h3)) (pa_cons (sE a a' hx h4) pa_nil (star_of h4)) (star_of h4)) fun σ H R ⟨η, μ, ρ, S, RD, hE, hR, hT, hJ⟩ => ?_
      simp only [wpI] at hT
      refine use hE hR hT fun d S1 v μ1 H1 g1 r1 e1 rv1 q1 => ?_
      exact enum_it r1 rv1 q1 fun J items I q jok => hJ J H1 items I S1 μ1 g1 r1 q jok
    | [], _, h => simp [okI] at h
    | _ :: _ :: _, _, h => simp [okI] at h
    | [_], _ :: _, h => simp [okI] at h
  | .zip3 a b c, X, sc, tg, e, hx, h, ht => by
    cases e <;> first | (simp [okI] at h; done) | skip
    rename_i f as ks p
    cases f <;> first | (simp [okI] at h; done) | skip
    cases tg <;> first | (exfalso; have hz := ht rfl; simp [isTupE] at hz; done) | skip
    match as, ks, h with
    | [a', b', c'], [], h =>
      simp only [okI, Bool.and_eq_true, beq_iff_eq] at h
      obtain ⟨⟨⟨⟨⟨h1, h2⟩, h3⟩, h4⟩, h5⟩, h6⟩ := h
      subst h1
      refine PI.imp (pi_zipM3 (gl_of hx h2) (hx.tab.bi _ (by simpa using h3)) (pa_cons (sE a a' hx h4) (pa_cons (sE b b' hx h5) (pa_cons (sE c c' hx h6) pa_nil (star_of h6)) (star_of h5)) (star_of h4)) (star_of h4) (by rw [star_of h5, star_of h6]; rfl)) fun σ H R ⟨η, μ, ρ, S, RD, hE, hR, hT, hJ⟩ => ?_
      simp only [wpI] at hT
      refine use hE hR hT fun d S1 v μ1 H1 g1 r1 e1 rv1 q1 => use e1 r1 q1 fun d2 S2 v2 μ2 H2 g2 r2 e2 rv2 q2 => use e2 r2 q2 fun d3 S3 v3 μ3 H3 g3 r3 e3 rv3 q3 => ?_
      exact zip3_it r3 ((rv1.ext g2.ext).ext g3.ext) (rv2.ext g3.ext) rv3 q3 fun J items I q jok => hJ J H3 items I S3 μ3 ((g1.trans g2).trans g3) r3 q jok
    | [], _, h => simp [okI] at h
    | [_], _, h => simp [okI] at h
    | [_, _], _, h => simp [okI] at h
    | _ :: _ :: _ :: _ :: _, _, h => simp [okI] at h
    | [_, _, _], _ :: _, h => simp [okI] at h
  | .zip2 a b, X, sc, tg, e, hx, h, ht => by
    cases e <;> first | (simp [okI] at h; done) | skip
    rename_i f as ks p
    cases f <;> first | (simp [okI] at h; done) | skip
    cases tg <;> first | (exfalso; have hz := ht rfl; simp [isTupE] at hz; done) | skip
    match as, ks, h with
    | [a', b'], [], h =>
      simp only [okI, Bool.and_eq_true, beq_iff_eq] at h
      obtain ⟨⟨⟨⟨h1, h2⟩, h3⟩, h4⟩, h5⟩ := h
      subst h1
      refine PI.imp (pi_zipM (gl_of hx h2) (hx.tab.bi _ (by simpa using h3)) (pa_cons (sE a a' hx h4) (pa_cons (sE b b' hx h5) pa_nil (star_of h5)) (star_of h4)) (star_of h4) (by rw [star_of h5]; rfl)) fun σ H R ⟨η, μ, ρ, S, RD, hE, hR, hT, hJ⟩ => ?_
      simp only [wpI] at hT
      refine use hE hR hT fun d S1 v μ1 H1 g1 r1 e1 rv1 q1 => use e1 r1 q1 fun d2 S2 v2 μ2 H2 g2 r2 e2 rv2 q2 => ?_
      exact zip_it r2 (rv1.ext g2.ext) rv2 q2 fun J items I q jok => hJ J H2 items I S2 μ2 (g1.trans g2) r2 q jok
    | [], _, h => simp [okI] at h
    | [_], _, h => simp [okI] at h
    | _ :: _ :: _ :: _, _, h => simp [okI] at h
    | [_, _], _ :: _, h => simp [okI] at h
end
end
end DL

set_option maxHeartbeats 4000000
namespace DL
open PySem PySem.Spec PyProof.Rows L2
section
variable {T : Tb} {G : Fns} {k : Nat} {N : List Str}
theorem okT_dsub {sc : SS} {a : CE} {es : List CE} {e : Expr} (h : okT T N sc (.dsub a es) e = true) : ∃ o i b c p, e = .Subscript o (.Tuple i b c) p ∧ okE T N sc a o = true ∧ okEs T N sc es i = true ∧ es.length ≤ 1000 := by
  cases e <;> first | (simp [okT] at h; done) | skip
  rename_i o i p
  cases i <;> first | (simp [okT] at h; done) | skip
  simp only [okT, Bool.and_eq_true, decide_eq_true_eq] at h
  exact ⟨_, _, _, _, _, rfl, h.1.1, h.1.2, h.2⟩
theorem dsub_run {K : PySem.W.Frag} {η μ : List Addr} {S : DStore} {H : Hp} {G : Fns} {a : CE} {es : List CE} {d : D} {v : V} {ρ : DEnv} {σ : L2.St} {QD : DEnv → DStore → Prop} {Q : L2.St → Hp → Prop} (hE : RE K H η μ ρ σ) (hR : Rp K η μ S H) (rv : RV K H η μ d v) (hT : wpG G (.dsub a es) d ρ S QD) (hlen : es.length ≤ 1000)
    (hQ : ∀ S' μ' H', Grow μ H μ' H' → Rp K η μ' S' H' → RE K H' η μ' ρ σ → QD ρ S' → Q σ H') : gSub (tOf K (wpE G a)) (tTup (aOf K es.length (wpEs G es))) rSetD v σ H Q := by
  simp only [wpG] at hT
  refine use hE hR hT fun d2 S2 v2 μ2 H2 g2 r2 e2 rv2 q2 => useA e2 r2 q2 fun ys S3 vs μ3 H3 g3 r3 e3 rv3 hl q3 => ⟨?_, fun p hp => ?_⟩
  · have : (1000 : Nat) ≤ sizeLine := by decide
    omega
  obtain ⟨n, kvs, ks, rfl, ec, hk, hlen, q⟩ := q3
  have g4 := grow_new (o := .tup vs) r3 hp
  have r4 := rp_new (o := .tup vs) r3 hp
  have eb : vs = ks.map kV := keysOf_rv rv3 hk
  have rv2' := (rv2.ext (η' := η) g3.ext).ext (η' := η) g4.ext
  cases rv2' with
  | @ref n a1 hn =>
    obtain ⟨a', ha', ws, hw, qs⟩ := r4.cell n _ ec
    rw [hn] at ha'; cases ha'
    have rv1' := ((rv.ext (η' := η) g2.ext).ext (η' := η) g3.ext).ext (η' := η) g4.ext
    have qp := qs.put (k := ks) rv1'
    refine ⟨a1, p, ws, ks, rfl, rfl, hw, by rw [← eb]; exact upd_same, by rw [← qs.length]; exact hlen, ?_⟩
    have gg := grow_set (o := .dT (putK ws ks v)) r4 hn hw
    exact hQ _ _ _ (((g2.trans g3).trans g4).trans gg) (rp_setD r4 hn hw qp) ((e3.ext g4.ext).ext gg.ext) q
theorem dsub3_run {K : PySem.W.Frag} {η μ : List Addr} {S : DStore} {H : Hp} {G : Fns} {a1 a2 a3 : CE} {k1 k2 k3 : List CE} {ds : List D} {vs : List V} {ρ : DEnv} {σ : L2.St} {QD : DEnv → DStore → Prop} {Q : L2.St → Hp → Prop} (hE : RE K H η μ ρ σ) (hR : Rp K η μ S H) (rv : RVs K H η μ ds vs) (hT : wpGs G [.dsub a1 k1, .dsub a2 k2, .dsub a3 k3] ds ρ S QD) (hl : ds.length = 3)
    (l1 : k1.length ≤ 1000) (l2 : k2.length ≤ 1000) (l3 : k3.length ≤ 1000) (hQ : ∀ S' μ' H', Grow μ H μ' H' → Rp K η μ' S' H' → RE K H' η μ' ρ σ → QD ρ S' → Q σ H') :
    gCons (gSub (tOf K (wpE G a1)) (tTup (aOf K k1.length (wpEs G k1))) rSetD) (gCons (gSub (tOf K (wpE G a2)) (tTup (aOf K k2.length (wpEs G k2))) rSetD) (gCons (gSub (tOf K (wpE G a3)) (tTup (aOf K k3.length (wpEs G k3))) rSetD) gNil)) vs σ H Q := by
  match ds, rv, hl with
  | [x, y, z], .cons rx (.cons ry (.cons rz .nil)), _ =>
    simp only [wpGs] at hT
    obtain ⟨_, _, e, hT⟩ := hT
    cases e
    refine ⟨_, _, rfl, dsub_run hE hR rx hT l1 fun S1 μ1 H1 g1 r1 e1 q1 => ?_⟩
    obtain ⟨_, _, e, q1⟩ := q1
    cases e
    refine ⟨_, _, rfl, dsub_run e1 r1 (ry.ext g1.ext) q1 l2 fun S2 μ2 H2 g2 r2 e2 q2 => ?_⟩
    obtain ⟨_, _, e, q2⟩ := q2
    cases e
    refine ⟨_, _, rfl, dsub_run e2 r2 ((rz.ext g1.ext).ext g2.ext) q2 l3 fun S3 μ3 H3 g3 r3 e3 q3 => ?_⟩
    exact ⟨rfl, hQ _ _ _ ((g1.trans g2).trans g3) r3 e3 q3⟩
theorem asg1_of {sc : SS} {t : CT} {e : Expr} {env : Env} (h : okT T N sc t e = true) : (assignEach [e] env).map (·.2) = [assign e env] := by
  cases e <;> first | rfl | (exfalso; cases t <;> simp [okT] at h)
theorem ps_setDc {X : Cx} {i : Nat} {y : Str} {py : Pos} {kx vx tg iter : Expr} {ifs : List Expr} {scope : Scope} {own : List (Str × Nat)} {pos spos : Pos} {wi : TI} {g : TG} {tt : TT} {tk tv : TE} (hc : X.calm = true) (hN : X.N.Nodup) (hy : X.N[i]? = some y) (hyl : X.env.scope.names.lookup y = some .local)
    (hsw : swapsWith (.DictComp kx vx [⟨tg, iter, ifs, 0⟩] scope pos) (some (.Name y py)) spos.line X.env = pure true) (hi : PI X tg iter wi) (ok : BlkOk X.N X.env.scope scope own)
    (hg : ∀ (s : Shared) (H : Hp) (C : Addr) (cl : List (Str × Addr)) (fp : List Addr), PG (X.blk s H scope (compEnvC scope cl C X.env) fp) tg g) (ht : ∀ (s : Shared) (H : Hp) (C : Addr) (cl : List (Str × Addr)) (fp : List Addr), PTs (X.blk s H scope (compEnvC scope cl C X.env) fp) ifs tt)
    (hk : ∀ (s : Shared) (H : Hp) (C : Addr) (cl : List (Str × Addr)) (fp : List Addr), PE (X.blk s H scope (compEnvC scope cl C X.env) fp) kx tk)
    (he : ∀ (s : Shared) (H : Hp) (C : Addr) (cl : List (Str × Addr)) (fp : List Addr), PE (X.blk s H scope (compEnvC scope cl C X.env) fp) vx tv) (hs : ∀ x, foldedSetIterable iter X.env x = pure x) :
    PS X (.Assign [.Name y py] (.DictComp kx vx [⟨tg, iter, ifs, 0⟩] scope pos) spos) (tAsg (tDc wi g tt tk tv (own.map (·.2))) (gName i)) := by
  refine ⟨fun pins s σ H D I h => ?_⟩
  rw [exec_Assign_Name_used _ _ _ _ hsw]
  refine wpAny_bind (wpAny_standAt (wpAny_bind ?_))
  show wpAny _ X.A (do let _ ← comprehension (.DictComp kx vx [⟨tg, iter, ifs, 0⟩] scope pos) scope X.env (firstIterPos [⟨tg, iter, ifs, 0⟩] pos) newDict false (eval iter X.env) (some (assign (.Name y py) X.env))) _ _ s
  have h : tDc wi g tt tk tv (own.map (·.2)) σ H (fun x H1 => gName i x σ H1 D.nx) := h
  refine wpAny_bind (thn (dc_core (Qf := fun _ s' => SP X pins D .next s') hc hN I hi ok hg ht hk he hs h fun L C s' m H' I' q hn f => ?_) fun _ s' hq => wpAny_pure (wpAny_pure hq))
  show wpAny _ _ (assign (.Name y py) X.env (.ref L)) _ _ _
  refine wpAny_assign_Name (store_ok2 (v := V.ref L) I' hN hy (.inl hyl) rfl (fun s2 I2 ⟨a, sb, ha⟩ => ?_) (.inr hyl))
  obtain ⟨f0, f1, f2, f3, f4, f5⟩ := f
  have haC : C ≠ a := by
    rcases ha with z | z
    · rw [z]; exact f1
    · exact fun e => f4 y a z e.symm
  refine ⟨m, hn.sameBut sb haC, fun h3 sb3 => ?_⟩
  exact ⟨_, H', I2.turned (t' := s2.toks) (fun b o hb e => (sb3.2 b hb).trans e) f0 f1 f3 f4 f5, q⟩
theorem sw_trueD {kx vx : Expr} {gs : List Comprehension} {scope : Scope} {pos py : Pos} {y : Str} {l : Nat} {env : Env} (hk : env.scope.kind = .function) (hy : env.scope.names.lookup y = some .local) (hl : (py.line == pos.line) = true)
    (ha : (scope.names.any fun (n, k) => n == y && (k == .local || k == .cell)) = false) : swapsWith (.DictComp kx vx gs scope pos) (some (.Name y py)) l env = pure true := by
  have ky : env.kindOf y = some .local := hy
  have hb : env.blockKind = .function := by unfold Env.blockKind; rw [hk]; rfl
  unfold swapsWith
  simp only [hb, ky, ha, Expr.pos, hl]
  rfl
theorem swapsS_of {e t : Expr} {l : Nat} {env : Env} (h : (notComp e || notNm t) = true) : swapsWithSole [t] e l env = pure false := by
  show swapsWith e (some t) l env = pure false
  have h' : notComp e = true ∨ notNm t = true := by simpa using h
  rcases h' with h1 | h1
  · exact swaps_of h1
  · cases t <;> first | (simp [notNm] at h1; done) | (cases e <;> rfl)
theorem pa3 {X : Cx} {e e' e3 : Expr} {T T' T3 : TD} (h : PE X e (tOf X.K T)) (h' : PE X e' (tOf X.K T')) (h3 : PE X e3 (tOf X.K T3)) (hs : starEach [e, e', e3] X.env = (false, eval e X.env) :: starEach [e', e3] X.env) (hs' : starEach [e', e3] X.env = (false, eval e' X.env) :: starEach [e3] X.env)
    (hs3 : starEach [e3] X.env = (false, eval e3 X.env) :: starEach [] X.env) :
    PA X [e, e', e3] (aOf X.K 3 (fun ρ S Q => T ρ S fun d S1 => T' ρ S1 fun d' S2 => T3 ρ S2 fun d3 S3 => Q [d, d', d3] S3)) :=
  PA.imp (pa_cons h (pa_cons h' (pa_cons h3 pa_nil hs3) hs') hs) fun σ H Q ⟨η, μ, ρ, S, QD, hE, hR, hT, hQ⟩ => use hE hR hT fun d S1 v μ1 H1 g1 r1 e1 rv1 q1 => use e1 r1 q1 fun d2 S2 v2 μ2 H2 g2 r2 e2 rv2 q2 => use e2 r2 q2 fun d3 S3 v3 μ3 H3 g3 r3 e3 rv3 q3 =>
    hQ _ _ ⟨[d, d2, d3], S3, μ3, (g1.trans g2).trans g3, r3, .cons ((rv1.ext g2.ext).ext g3.ext) (.cons (rv2.ext g3.ext) (.cons rv3 .nil)), q3⟩ rfl
theorem three_of {ds : List D} {vs : List V} {K : PySem.W.Frag} {H : Hp} {η μ : List Addr} (r : RVs K H η μ ds vs) (h : vs.length = 3) : ∃ d d' d3 v v' v3, ds = [d, d', d3] ∧ vs = [v, v', v3] ∧ RV K H η μ d v ∧ RV K H η μ d' v' ∧ RV K H η μ d3 v3 := by
  cases r with
  | nil => simp at h
  | cons a b =>
    obtain ⟨d, d', v, v', rfl, rfl, r, r'⟩ := two_of b (by simpa using h)
    exact ⟨_, _, _, _, _, _, rfl, rfl, a, r, r'⟩
theorem aug_ip {X : Cx} (op : Operator) : ∃ ti, PIp X op ti ∧ ∀ {K η μ S H x y v u} {F : Int → D → DStore → Prop} {Q : VK}, Rp K η μ S H → RV K H η μ x v → RV K H η μ y u →
    (i2 x y fun a b => match op with
      | .Add => F 0 (.int (a + b)) S
      | .Sub => F 0 (.int (a - b)) S
      | _ => False) → (∀ i, F 0 (.int i) S → Q (.int i) H) → ti v u H Q := by
  cases op
  case Add => exact ⟨_, ip_add, fun r rx ry h hQ => by
    cases rx <;> cases ry <;> simp only [i2] at h
    exact ⟨_, _, rfl, rfl, hQ _ h⟩⟩
  case Sub => exact ⟨_, ip_sub, fun r rx ry h hQ => by
    cases rx <;> cases ry <;> simp only [i2] at h
    exact ⟨_, _, rfl, rfl, hQ _ h⟩⟩
  all_goals exact ⟨fun _ _ _ _ => False, fun _ _ _ _ _ _ _ _ _ _ _ _ h => h.elim, fun r rx ry h hQ => by
    cases rx <;> cases ry <;> simp only [i2] at h⟩
set_option maxHeartbeats 4000000 in
mutual
theorem sS : ∀ (c : CS) {X : Cx} {sc : SS} (st : Stmt), Here T G k N X sc → okS T N sc c st = true → PS X st (sOf X.K (wpS G c))
  | .expr e, X, sc, st, hx, h => by
    cases st <;> first | (simp [okS] at h; done) | skip
    simp only [okS, Bool.and_eq_true] at h
    refine PS.imp (ps_expr (sE e _ hx h.1) (swaps_of h.2)) fun E σ H ⟨η, μ, ρ, S, ED, hE, hR, hT, hQ⟩ => ?_
    simp only [wpS] at hT
    exact use hE hR hT fun d S1 v μ1 H1 g1 r1 e1 rv1 q1 => hQ.nx _ _ _ _ _ g1 r1 e1 q1
  | .ret e, X, sc, st, hx, h => by
    cases st <;> first | (simp [okS] at h; done) | skip
    rename_i o p
    cases o <;> first | (simp [okS] at h; done) | skip
    simp only [okS] at h
    refine PS.imp (ps_ret (sE e _ hx h)) fun E σ H ⟨η, μ, ρ, S, ED, hE, hR, hT, hQ⟩ => ?_
    simp only [wpS] at hT
    exact use hE hR hT fun d S1 v μ1 H1 g1 r1 e1 rv1 q1 => hQ.rt _ _ _ _ _ g1 r1 rv1 q1
  | .retN, X, sc, st, hx, h => by
    cases st <;> first | (simp [okS] at h; done) | skip
    rename_i o p
    cases o <;> first | (simp [okS] at h; done) | skip
    refine PS.imp ps_retN fun E σ H ⟨η, μ, ρ, S, ED, hE, hR, hT, hQ⟩ => ?_
    simp only [wpS] at hT
    exact hQ.rt _ _ _ _ _ .refl hR .non hT
  | .pass, X, sc, st, hx, h => by
    cases st <;> first | (simp [okS] at h; done) | skip
    refine PS.imp ps_pass fun E σ H ⟨η, μ, ρ, S, ED, hE, hR, hT, hQ⟩ => ?_
    simp only [wpS] at hT
    exact hQ.nx _ _ _ _ _ .refl hR hE hT
  | .brk, X, sc, st, hx, h => by
    cases st <;> first | (simp [okS] at h; done) | skip
    refine PS.imp ps_break fun E σ H ⟨η, μ, ρ, S, ED, hE, hR, hT, hQ⟩ => ?_
    simp only [wpS] at hT
    exact hQ.bk _ _ _ _ _ .refl hR hE hT
  | .cont, X, sc, st, hx, h => by
    cases st <;> first | (simp [okS] at h; done) | skip
    refine PS.imp ps_continue fun E σ H ⟨η, μ, ρ, S, ED, hE, hR, hT, hQ⟩ => ?_
    simp only [wpS] at hT
    exact hQ.ct _ _ _ _ _ .refl hR hE hT
  | .never, X, sc, st, hx, h => by
    refine PS.imp ps_never fun E σ H ⟨η, μ, ρ, S, ED, hE, hR, hT, hQ⟩ => ?_
    simp only [wpS] at hT
  | .asg t e, X, sc, st, hx, h => by
    cases st <;> first | (simp [okS] at h; done) | skip
    rename_i ts e' p
    match ts, h with
    | [t'], h =>
      simp only [okS, Bool.and_eq_true] at h
      obtain ⟨⟨⟨⟨h1, h2⟩, h3⟩, h4⟩, h5⟩ := h
      by_cases hs : t.simple = true
      · refine PS.imp (ps_asg (sE e _ hx h2) (sT t _ hx h1 hs) (swapsS_of h3) (noSwap_of hx h4) (asg1_of h1)) fun E σ H ⟨η, μ, ρ, S, ED, hE, hR, hT, hQ⟩ => ?_
        simp only [wpS] at hT
        refine use hE hR hT fun d S1 v μ1 H1 g1 r1 e1 rv1 q1 => ?_
        exact gS_run t hs r1 e1 rv1 q1 fun ρ' σ' e' _ _ q => hQ.nx _ _ _ _ _ g1 r1 e' q
      · cases t with
        | name i => exact absurd rfl hs
        | tup ts =>
          have hs' : CT.simple (.tup ts) = false := by simpa using hs
          rw [hs', Bool.false_or] at h5
          split at h5
          · rename_i e; cases e
          · rename_i e; cases e
          · rename_i e; cases e
          · rename_i a1 k1 a2 k2 a3 k3 e0
            cases e0
            have h1' := h1
            cases t' <;> first | (simp [okT] at h1; done) | skip
            rename_i els kt pt
            simp only [okT] at h1
            match els, h1, h1', h3, h4 with
            | [], h1, _, _, _ => simp [okTs] at h1
            | [_], h1, _, _, _ => simp [okTs] at h1
            | [_, _], h1, _, _, _ => simp [okTs] at h1
            | _ :: _ :: _ :: _ :: _, h1, _, _, _ => simp [okTs] at h1
            | [t1, t2, t3], h1, h1', h3, h4 =>
              simp only [okTs, Bool.and_eq_true] at h1
              obtain ⟨x1, x2, x3, _⟩ := h1
              obtain ⟨o1, i1, b1, c1, p1, rfl, u1, u2, u3⟩ := okT_dsub x1
              obtain ⟨o2, i2, b2, c2, p2, rfl, v1, v2, v3⟩ := okT_dsub x2
              obtain ⟨o3, i3, b3, c3, p3, rfl, w1, w2, w3⟩ := okT_dsub x3
              have hu : X.A.units + 1 < cLine := by have := hx.room.units; omega
              have P := pgs_cons (pg_sub (pos := p1) (sE a1 _ hx u1) (pe_tup (x1 := b1) (pos := c1) (sEs k1 _ hx u2)) (set_dictT hu) (sub_of rfl)) (pgs_cons (pg_sub (pos := p2) (sE a2 _ hx v1) (pe_tup (x1 := b2) (pos := c2) (sEs k2 _ hx v2)) (set_dictT hu) (sub_of rfl)) (pgs_cons (pg_sub (pos := p3) (sE a3 _ hx w1) (pe_tup (x1 := b3) (pos := c3) (sEs k3 _ hx w2)) (set_dictT hu) (sub_of rfl)) pgs_nil))
              refine PS.imp (ps_asg (sE e _ hx h2) (pg_or (pg_tup (k := kt) (pos := pt) hx.calm P) (pg_lst hx.calm P)) (swapsS_of h3) (noSwap_of hx h4) (asg1_of h1')) fun E σ H ⟨η, μ, ρ, S, ED, hE, hR, hT, hQ⟩ => ?_
              simp only [wpS, wpG] at hT
              refine use hE hR hT fun d S1 v μ1 H1 g1 r1 e1 rv1 q1 => ?_
              unfold unpD at q1
              split at q1
              · obtain ⟨hl, q1⟩ := q1
                cases rv1 with
                | tup hq qs => exact .inl ⟨_, _, rfl, hq, by rw [← qs.length]; exact hl, dsub3_run e1 r1 qs q1 hl u3 v3 w3 fun S' μ' H' g r e q => hQ.nx _ _ _ _ _ (g1.trans g) r e q⟩
              · obtain ⟨xs, ex, hl, q1⟩ := q1
                obtain ⟨b, ws, rfl, hb, qs⟩ := lst_of r1 rv1 ex
                exact .inr ⟨_, _, rfl, .inl (.inl hb), by rw [← qs.length]; exact hl, dsub3_run e1 r1 qs q1 hl u3 v3 w3 fun S' μ' H' g r e q => hQ.nx _ _ _ _ _ (g1.trans g) r e q⟩
          · cases h5
        | sub a i =>
          cases t' <;> first | (simp [okT] at h1; done) | skip
          have h1' := h1
          simp only [okT, Bool.and_eq_true] at h1
          refine PS.imp (ps_asg (sE e _ hx h2) (pg_sub (sE a _ hx h1.1.1) (sE i _ hx h1.1.2) set_list (sub_of h1.2)) (swapsS_of h3) (noSwap_of hx h4) (asg1_of h1')) fun E σ H ⟨η, μ, ρ, S, ED, hE, hR, hT, hQ⟩ => ?_
          simp only [wpS, wpG] at hT
          refine use hE hR hT fun d S1 v μ1 H1 g1 r1 e1 rv1 q1 => use e1 r1 q1 fun d2 S2 v2 μ2 H2 g2 r2 e2 rv2 q2 => use e2 r2 q2 fun d3 S3 v3 μ3 H3 g3 r3 e3 rv3 q3 => ?_
          obtain ⟨n, xs, kk, j, rfl, rfl, ec, ei, q⟩ := q3
          cases rv3
          have rv2' := rv2.ext (η' := η) g3.ext
          cases rv2' with
          | @ref n a hn =>
            obtain ⟨a', ha', vs, hvs, qs⟩ := r3.cell n _ ec
            rw [hn] at ha'; cases ha'
            have rv1' := (rv1.ext (η' := η) g2.ext).ext (η' := η) g3.ext
            have qs' := qs.set rv1' j
            refine ⟨_, _, _, j, rfl, rfl, hvs, by rw [← qs.length]; exact ei, ?_⟩
            have gg := grow_set (o := .lst (vs.set j v)) r3 hn hvs
            exact hQ.nx _ _ _ _ _ (((g1.trans g2).trans g3).trans gg) (rp_set r3 hn hvs qs') (e3.ext gg.ext) q
        | ksub a i =>
          cases t' <;> first | (simp [okT] at h1; done) | skip
          have h1' := h1
          simp only [okT, Bool.and_eq_true] at h1
          refine PS.imp (ps_asg (sE e _ hx h2) (pg_sub (sE a _ hx h1.1.1) (sE i _ hx h1.1.2) (set_dictT (by have := hx.room.units; omega)) (sub_of h1.2)) (swapsS_of h3) (noSwap_of hx h4) (asg1_of h1')) fun E σ H ⟨η, μ, ρ, S, ED, hE, hR, hT, hQ⟩ => ?_
          simp only [wpS, wpG] at hT
          refine use hE hR hT fun d S1 v μ1 H1 g1 r1 e1 rv1 q1 => use e1 r1 q1 fun d2 S2 v2 μ2 H2 g2 r2 e2 rv2 q2 => use e2 r2 q2 fun d3 S3 v3 μ3 H3 g3 r3 e3 rv3 q3 => ?_
          obtain ⟨n, kvs, ks, rfl, rfl, ec, hlen, q⟩ := q3
          cases rv3 with
          | @key b1 _ hb =>
            have rv2' := rv2.ext (η' := η) g3.ext
            cases rv2' with
            | @ref n a1 hn =>
              obtain ⟨a', ha', ws, hw, qs⟩ := r3.cell n _ ec
              rw [hn] at ha'; cases ha'
              have rv1' := (rv1.ext (η' := η) g2.ext).ext (η' := η) g3.ext
              have qp := qs.put (k := ks) rv1'
              refine ⟨a1, b1, ws, ks, rfl, rfl, hw, hb, by rw [← qs.length]; exact hlen, ?_⟩
              have gg := grow_set (o := .dT (putK ws ks v)) r3 hn hw
              exact hQ.nx _ _ _ _ _ (((g1.trans g2).trans g3).trans gg) (rp_setD r3 hn hw qp) (e3.ext gg.ext) q
        | dsub a es =>
          cases t' <;> first | (simp [okT] at h1; done) | skip
          rename_i o i p'
          cases i <;> first | (simp [okT] at h1; done) | skip
          have h1' := h1
          simp only [okT, Bool.and_eq_true, decide_eq_true_eq] at h1
          refine PS.imp (ps_asg (sE e _ hx h2) (pg_sub (sE a _ hx h1.1.1) (pe_tup (sEs es _ hx h1.1.2)) (set_dictT (by have := hx.room.units; omega)) (sub_of rfl)) (swapsS_of h3) (noSwap_of hx h4) (asg1_of h1')) fun E σ H ⟨η, μ, ρ, S, ED, hE, hR, hT, hQ⟩ => ?_
          simp only [wpS, wpG] at hT
          refine use hE hR hT fun d S1 v μ1 H1 g1 r1 e1 rv1 q1 => use e1 r1 q1 fun d2 S2 v2 μ2 H2 g2 r2 e2 rv2 q2 => useA e2 r2 q2 fun ys S3 vs μ3 H3 g3 r3 e3 rv3 hl q3 => ⟨?_, fun p hp => ?_⟩
          · have : (1000 : Nat) ≤ sizeLine := by decide
            omega
          obtain ⟨n, kvs, ks, rfl, ec, hk, hlen, q⟩ := q3
          have g4 := grow_new (o := .tup vs) r3 hp
          have r4 := rp_new (o := .tup vs) r3 hp
          have eb : vs = ks.map kV := keysOf_rv rv3 hk
          have rv2' := (rv2.ext (η' := η) g3.ext).ext (η' := η) g4.ext
          cases rv2' with
          | @ref n a1 hn =>
            obtain ⟨a', ha', ws, hw, qs⟩ := r4.cell n _ ec
            rw [hn] at ha'; cases ha'
            have rv1' := ((rv1.ext (η' := η) g2.ext).ext (η' := η) g3.ext).ext (η' := η) g4.ext
            have qp := qs.put (k := ks) rv1'
            refine ⟨a1, p, ws, ks, rfl, rfl, hw, by rw [← eb]; exact upd_same, by rw [← qs.length]; exact hlen, ?_⟩
            have gg := grow_set (o := .dT (putK ws ks v)) r4 hn hw
            exact hQ.nx _ _ _ _ _ ((((g1.trans g2).trans g3).trans g4).trans gg) (rp_setD r4 hn hw qp) ((e3.ext g4.ext).ext gg.ext) q
    | [], h => simp [okS] at h
    | _ :: _ :: _, h => simp [okS] at h
  | .par2 i j a b, X, sc, st, hx, h => by
    unfold okS at h
    split at h <;> first | (cases h; done) | (rename_i hq; cases hq; done) | skip
    rename_i hq; cases hq
    rename_i x px y py kt pt a' b' k2 p2 p
    simp only [Bool.and_eq_true, decide_eq_true_eq] at h
    obtain ⟨⟨⟨⟨⟨⟨⟨h1, h2⟩, h3⟩, h4⟩, h5⟩, h6⟩, h7⟩, h8⟩ := h
    have hw := swN_of (k1 := kt) (p1 := pt) (k2 := k2) (p2 := p2) hx (lits h8)
    refine PS.imp (ps_par hx.calm (by rw [hx.nm]; exact hx.nd) (by rw [hx.nm]; exact lits h3) (by rw [hx.nm]; exact lits h4) h5 (by rw [hx.scp]; exact pure_of h1) (by rw [hx.scp]; exact pure_of h2) (pa2 (sE a _ hx h6) (sE b _ hx h7) (star_of h6) (star_of h7)) hw rfl) fun E σ H ⟨η, μ, ρ, S, ED, hE, hR, hT, hQ⟩ => ?_
    simp only [wpS] at hT
    refine useA (QD := fun ds S1 => ED.nx ((ρ.set i (some (ds.headD .non))).set j (some (ds.tail.headD .non))) S1) hE hR hT fun ds S1 vs μ1 H1 g1 r1 e1 rv1 hl q1 => ?_
    obtain ⟨d, d', v, v', rfl, rfl, rv, rv2⟩ := two_of rv1 hl
    exact ⟨v, v', rfl, hQ.nx _ _ _ _ _ g1 r1 ((e1.set rv i).set rv2 j) q1⟩
  | .par3 i j l a b c, X, sc, st, hx, h => by
    unfold okS at h
    split at h <;> first | (cases h; done) | (rename_i hq; cases hq; done) | skip
    rename_i hq; cases hq
    rename_i x px y py z pz kt pt a' b' c' k2 p2 p
    simp only [Bool.and_eq_true, decide_eq_true_eq] at h
    obtain ⟨⟨⟨⟨⟨⟨⟨⟨⟨⟨⟨⟨h1, h2⟩, h3⟩, h4⟩, h5⟩, h6⟩, h7⟩, h8⟩, h9⟩, ha⟩, hb⟩, hc⟩, hd⟩ := h
    have hw := swN_of (k1 := kt) (p1 := pt) (k2 := k2) (p2 := p2) hx (lits hd)
    refine PS.imp (ps_par3 hx.calm (by rw [hx.nm]; exact hx.nd) (by rw [hx.nm]; exact lits h4) (by rw [hx.nm]; exact lits h5) (by rw [hx.nm]; exact lits h6) h7 h8 h9 (by rw [hx.scp]; exact pure_of h1) (by rw [hx.scp]; exact pure_of h2) (by rw [hx.scp]; exact pure_of h3)
      (pa3 (sE a _ hx ha) (sE b _ hx hb) (sE c _ hx hc) (star_of ha) (star_of hb) (star_of hc)) hw rfl) fun E σ H ⟨η, μ, ρ, S, ED, hE, hR, hT, hQ⟩ => ?_
    simp only [wpS] at hT
    refine useA (QD := fun ds S1 => ED.nx (((ρ.set i (some (ds.headD .non))).set j (some (ds.tail.headD .non))).set l (some (ds.tail.tail.headD .non))) S1) hE hR hT fun ds S1 vs μ1 H1 g1 r1 e1 rv1 hl q1 => ?_
    obtain ⟨d, d', d3, v, v', v3, rfl, rfl, rv, rv2, rv3⟩ := three_of rv1 hl
    exact ⟨v, v', v3, rfl, hQ.nx _ _ _ _ _ g1 r1 (((e1.set rv i).set rv2 j).set rv3 l) q1⟩
  | .setLc i e, X, sc, st, hx, h => by
    unfold okS at h
    split at h <;> first | (cases h; done) | (rename_i hq; cases hq; done) | skip
    · rename_i hq; cases hq
      rename_i y py elt' gs scope pos p
      simp only [Bool.and_eq_true] at h
      obtain ⟨⟨⟨⟨⟨h0, h⟩, hy⟩, hi⟩, hl⟩, ha⟩ := h
      cases e <;> first | (cases h0; done) | skip
      rename_i m elt tg it ifs own
      match gs, h with
      | [⟨tg', it', ifs', as⟩], h =>
        by_cases ha : as = 0
        · subst ha
          simp only [okE, Bool.and_eq_true] at h
          obtain ⟨⟨⟨⟨⟨⟨⟨⟨h1, h2⟩, h3⟩, h4⟩, h5⟩, h6⟩, h7⟩, h8⟩, h9⟩ := h
          have ok := blkOk_by h1
          have hok : BlkOk X.N X.env.scope scope (own.map fun i => (N.getD i "", i)) := by rw [hx.nm, hx.scp]; exact ok
          have hown : (own.map fun i => ((N.getD i "", i) : Str × Nat)).map (·.2) = own := by rw [List.map_map]; exact List.map_id _
          have hyl : X.env.scope.names.lookup y = some .local := by rw [hx.scp]; exact pure_of hy
          have P := ps_setLc (spos := p) (py := py) (i := i) (y := y) (pos := pos) (elt := elt') (ifs := ifs') (tg := tg') (iter := it') (scope := scope) (g := gS X.K tg) (tt := bOf X.K (wpBs G ifs)) (te := tOf X.K (wpE G elt)) hx.calm (by rw [hx.nm]; exact hx.nd) (by rw [hx.nm]; exact lits hi) hyl
            (sw_true (by rw [hx.scp]; exact hx.kind) hyl hl (by simpa using ‹(!scope.names.any fun x => match x with | (n, k) => n == y && (k == NameKind.local || k == NameKind.cell)) = true›)) (sI it _ _ hx h6 (pairs_of h9)) hok (fun s H C cl fp => sT tg _ (hx.blk ok.kind s H C cl fp) h3 h4) (fun s H C cl fp => sBs ifs _ (hx.blk ok.kind s H C cl fp) h7 (by simpa using h8))
            (fun s H C cl fp => sE elt _ (hx.blk ok.kind s H C cl fp) h2) (sI_fold it _ h6)
          rw [hown] at P
          refine PS.imp P fun E σ H ⟨η, μ, ρ, S, ED, hE, hR, hT, hQ⟩ => ?_
          rw [wpS] at hT
          refine lc_of hE hR h4 (fun i hi => by simpa using List.all_eq_true.mp h5 i hi) hT fun v H' ⟨d, S1, μ1, g1, r1, rv, q⟩ => ?_
          exact hQ.nx _ _ _ _ _ g1 r1 ((hE.ext g1.ext).set rv i) q
        · simp [okE, ha] at h
      | [], h => simp [okE] at h
      | _ :: _ :: _, h => simp [okE] at h
    · rename_i hq; cases hq
      rename_i y py key' val' gs scope pos p
      simp only [Bool.and_eq_true] at h
      obtain ⟨⟨⟨⟨⟨h0, h⟩, hy⟩, hi⟩, hl⟩, ha⟩ := h
      cases e <;> first | (cases h0; done) | skip
      rename_i key val tg it own
      match gs, h with
      | [⟨tg', it', ifs', as⟩], h =>
        by_cases hz : as = 0 ∧ ifs' = []
        · obtain ⟨rfl, rfl⟩ := hz
          simp only [okE, Bool.and_eq_true] at h
          obtain ⟨⟨⟨⟨⟨⟨⟨h1, h2⟩, h2'⟩, h3⟩, h4⟩, h5⟩, h6⟩, h9⟩ := h
          have ok := blkOk_by h1
          have hok : BlkOk X.N X.env.scope scope (own.map fun i => (N.getD i "", i)) := by rw [hx.nm, hx.scp]; exact ok
          have hown : (own.map fun i => ((N.getD i "", i) : Str × Nat)).map (·.2) = own := by rw [List.map_map]; exact List.map_id _
          have hyl : X.env.scope.names.lookup y = some .local := by rw [hx.scp]; exact pure_of hy
          have P := ps_setDc (spos := p) (py := py) (i := i) (y := y) (pos := pos) (kx := key') (vx := val') (ifs := []) (tg := tg') (iter := it') (scope := scope) (g := gS X.K tg) (tt := tYes) (tk := tOf X.K (wpE G key)) (tv := tOf X.K (wpE G val)) hx.calm (by rw [hx.nm]; exact hx.nd) (by rw [hx.nm]; exact lits hi) hyl
            (sw_trueD (by rw [hx.scp]; exact hx.kind) hyl hl (by simpa using ha)) (sI it _ _ hx h6 (pairs_of h9)) hok (fun s H C cl fp => sT tg _ (hx.blk ok.kind s H C cl fp) h3 h4) (fun s H C cl fp => pts_nil)
            (fun s H C cl fp => sE key _ (hx.blk ok.kind s H C cl fp) h2) (fun s H C cl fp => sE val _ (hx.blk ok.kind s H C cl fp) h2') (sI_fold it _ h6)
          rw [hown] at P
          refine PS.imp P fun E σ H ⟨η, μ, ρ, S, ED, hE, hR, hT, hQ⟩ => ?_
          rw [wpS] at hT
          refine dc_of hE hR h4 (fun i hi => by simpa using List.all_eq_true.mp h5 i hi) hT fun v H' ⟨d, S1, μ1, g1, r1, rv, q⟩ => ?_
          exact hQ.nx _ _ _ _ _ g1 r1 ((hE.ext g1.ext).set rv i) q
        · exfalso
          unfold okE at h
          split at h <;> first | (cases h; done) | skip
          all_goals first | (exact hz ⟨rfl, rfl⟩) | (rename_i e1 e2; cases e1; exact hz ⟨rfl, rfl⟩) | simp_all
      | [], h => simp [okE] at h
      | _ :: _ :: _, h => simp [okE] at h
  | .aug i op e, X, sc, st, hx, h => by
    cases st <;> first | (simp [okS] at h; done) | skip
    rename_i t op' e' p
    cases t <;> first | (simp [okS] at h; done) | skip
    simp only [okS, Bool.and_eq_true, beq_iff_eq] at h
    obtain ⟨⟨⟨h1, h2⟩, h3⟩, h4⟩ := h
    subst h1
    obtain ⟨l1, l2⟩ := loc_of h2
    obtain ⟨ti, hti, hrun⟩ := aug_ip (X := X) op
    refine PS.imp (ps_aug (i := i) (by rw [hx.nm]; exact hx.nd) (by rw [hx.nm]; exact lits (by simpa using h3)) (by rw [hx.scp]; exact l1) (sE e _ hx h4) hti (l2.imp (fun z => hx.fn _ z) fun z => by rw [hx.scp]; exact z)) fun E σ H ⟨η, μ, ρ, S, ED, hE, hR, hT, hQ⟩ => ?_
    simp only [wpS] at hT
    obtain ⟨x, ex, hT⟩ := hT
    obtain ⟨v, ev, rv⟩ := hE.get i x ex
    refine ⟨v, ev, use hE hR hT fun d S1 u μ1 H1 g1 r1 e1 rv1 q1 => ?_⟩
    refine hrun (F := fun _ d S1 => ED.nx (ρ.set i (some d)) S1) r1 (rv.ext g1.ext) rv1 ?_ fun z q => hQ.nx _ _ _ _ _ g1 r1 (e1.set (.int z) i) q
    revert q1
    unfold i2
    split
    · cases op <;> exact id
    · exact id
  | .append a e, X, sc, st, hx, h => by
    unfold okS at h
    split at h <;> first | (cases h; done) | (rename_i hq; cases hq; done) | skip
    rename_i hq; cases hq
    rename_i o m ap e' cp p
    simp only [Bool.and_eq_true, beq_iff_eq] at h
    obtain ⟨⟨⟨⟨h1, h2⟩, h3⟩, h4⟩, h5⟩ := h
    subst h1
    refine PS.imp (ps_expr (pe_bm PySem.F.plainAttrs_list PySem.F.slot_list_append PySem.F.type_list_append mt_append (sE a _ hx h3) (pa1 (sE e _ hx h4) (star_of h4)) (base_of h5) (by rw [star_of h4]; rfl) (by simpa using h2) (star_of h4) rfl)) fun E σ H ⟨η, μ, ρ, S, ED, hE, hR, hT, hQ⟩ => ?_
    simp only [wpS] at hT
    refine use hE hR hT fun d S1 v μ1 H1 g1 r1 e1 rv1 q1 => ?_
    obtain ⟨n, rfl, hn, q1⟩ := q1
    cases rv1 with
    | @ref n a1 hn1 =>
      obtain ⟨a2, ha2, vs2, hv2, qs2⟩ : ∃ a2, μ1[n]? = some a2 ∧ ∃ vs, H1 a2 = some (.lst vs) ∧ True := by
        obtain ⟨ds0, hn⟩ := hn
        obtain ⟨a2, ha2, vs, e, q⟩ := r1.cell n _ hn
        exact ⟨a2, ha2, vs, e, trivial⟩
      rw [hn1] at ha2; cases ha2
      refine ⟨.inl ⟨rfl, _, .inl (.inl hv2)⟩, ?_⟩
      refine useA (QD := fun ds S2 => ∃ xs, S2[n]? = some (.lst xs) ∧ xs.length < sizeLine ∧ ED.nx ρ (S2.set n (.lst (xs ++ [ds.headD .non])))) e1 r1 q1 fun ds S2 vs μ2 H2 g2 r2 e2 rv2 hl q2 => ?_
      obtain ⟨y, u, rfl, rfl, ru⟩ := one_of rv2 hl
      obtain ⟨xs, ec, hz, q⟩ := q2
      obtain ⟨a3, ha3, ws, hw, qs⟩ := r2.cell n _ ec
      obtain ⟨more, em⟩ := g2.pre
      have ha1 : μ2[n]? = some a1 := by
        rw [em, List.getElem?_append_left (List.getElem?_eq_some_iff.mp hn1).1]; exact hn1
      rw [ha1] at ha3; cases ha3
      refine ⟨a1, ws, u, rfl, rfl, hw, by rw [← qs.length]; exact hz, ?_⟩
      have gg := grow_set (o := .lst (ws ++ [u])) r2 ha1 hw
      exact hQ.nx _ _ _ _ _ ((g1.trans g2).trans gg) (rp_set r2 ha1 hw (qs.append (.cons ru .nil))) (e2.ext gg.ext) q
  | .extend a e, X, sc, st, hx, h => by
    unfold okS at h
    split at h <;> first | (cases h; done) | (rename_i hq; cases hq; done) | skip
    rename_i hq; cases hq
    rename_i o m ap e' cp p
    simp only [Bool.and_eq_true, beq_iff_eq] at h
    obtain ⟨⟨⟨⟨h1, h2⟩, h3⟩, h4⟩, h5⟩ := h
    subst h1
    refine PS.imp (ps_expr (pe_bm PySem.F.plainAttrs_list PySem.F.slot_list_extend PySem.F.type_list_extend mt_extend (sE a _ hx h3) (pa1 (sE e _ hx h4) (star_of h4)) (base_of h5) (by rw [star_of h4]; rfl) (by simpa using h2) (star_of h4) rfl)) fun E σ H ⟨η, μ, ρ, S, ED, hE, hR, hT, hQ⟩ => ?_
    simp only [wpS] at hT
    refine use hE hR hT fun d S1 v μ1 H1 g1 r1 e1 rv1 q1 => ?_
    obtain ⟨n, rfl, hn, q1⟩ := q1
    cases rv1 with
    | @ref n a1 hn1 =>
      obtain ⟨a2, ha2, vs2, hv2, qs2⟩ : ∃ a2, μ1[n]? = some a2 ∧ ∃ vs, H1 a2 = some (.lst vs) ∧ True := by
        obtain ⟨ds0, hn⟩ := hn
        obtain ⟨a2, ha2, vs, e, q⟩ := r1.cell n _ hn
        exact ⟨a2, ha2, vs, e, trivial⟩
      rw [hn1] at ha2; cases ha2
      refine ⟨.inl ⟨rfl, _, .inl (.inl hv2)⟩, ?_⟩
      refine useA (QD := fun ds S2 => ∃ xs zs, S2[n]? = some (.lst xs) ∧ lstOf S2 (ds.headD .non) = some zs ∧ xs.length + zs.length ≤ sizeLine ∧ ED.nx ρ (S2.set n (.lst (xs ++ zs)))) e1 r1 q1 fun ds S2 vs μ2 H2 g2 r2 e2 rv2 hl q2 => ?_
      obtain ⟨y, u, rfl, rfl, ru⟩ := one_of rv2 hl
      obtain ⟨xs, zs, ec, ez, hz, q⟩ := q2
      obtain ⟨a3, ha3, ws, hw, qs⟩ := r2.cell n _ ec
      obtain ⟨more, em⟩ := g2.pre
      have ha1 : μ2[n]? = some a1 := by
        rw [em, List.getElem?_append_left (List.getElem?_eq_some_iff.mp hn1).1]; exact hn1
      rw [ha1] at ha3; cases ha3
      obtain ⟨b4, us, rfl, hb4, qz⟩ := lst_of r2 ru ez
      refine ⟨a1, b4, ws, us, rfl, rfl, hw, hb4, by rw [← qs.length, ← qz.length]; exact hz, ?_⟩
      have gg := grow_set (o := .lst (ws ++ us)) r2 ha1 hw
      exact hQ.nx _ _ _ _ _ ((g1.trans g2).trans gg) (rp_set r2 ha1 hw (qs.append qz)) (e2.ext gg.ext) q
  | .popS a, X, sc, st, hx, h => by
    unfold okS at h
    split at h <;> first | (cases h; done) | (rename_i hq; cases hq; done) | skip
    rename_i hq; cases hq
    rename_i o m ap cp p
    simp only [Bool.and_eq_true, beq_iff_eq] at h
    obtain ⟨⟨⟨h1, h2⟩, h3⟩, h5⟩ := h
    subst h1
    refine PS.imp (ps_expr (pe_bm0 PySem.F.plainAttrs_list PySem.F.slot_list_pop PySem.F.type_list_pop mt_pop (sE a _ hx h3) (base_of h5) (by simpa using h2))) fun E σ H ⟨η, μ, ρ, S, ED, hE, hR, hT, hQ⟩ => ?_
    simp only [wpS] at hT
    refine use hE hR hT fun d S1 v μ1 H1 g1 r1 e1 rv1 q1 => ?_
    obtain ⟨n, xs, y, rfl, ec, q⟩ := q1
    cases rv1 with
    | @ref n a1 hn1 =>
      obtain ⟨a3, ha3, ws, hw, qs⟩ := r1.cell n _ ec
      rw [hn1] at ha3; cases ha3
      have hlen := qs.length
      refine ⟨.inl ⟨rfl, _, .inl (.inl hw)⟩, ?_⟩
      obtain ⟨u, hu, ru⟩ := qs.get (i := xs.length) (d := y) (by simp)
      refine ⟨a1, ws, u, rfl, rfl, hw, by rw [← hlen]; simpa using hu, ?_⟩
      have gg := grow_set (o := .lst ws.dropLast) r1 hn1 hw
      have qd : RVs X.K H1 η μ1 xs ws.dropLast := by
        have := qs.take xs.length
        rw [List.take_left'] at this
        · rw [List.dropLast_eq_take, ← hlen]; simpa using this
        · rfl
      exact hQ.nx _ _ _ _ _ (g1.trans gg) (rp_set r1 hn1 hw qd) (e1.ext gg.ext) q
  | .if_ c a b, X, sc, st, hx, h => by
    cases st <;> first | (simp [okS] at h; done) | skip
    simp only [okS, Bool.and_eq_true] at h
    refine PS.imp (ps_if (sB c _ hx h.1.1) (sSs a _ hx h.1.2) (sSs b _ hx h.2)) fun E σ H ⟨η, μ, ρ, S, ED, hE, hR, hT, hQ⟩ => ?_
    simp only [wpS] at hT
    refine useB hE hR hT fun r S1 μ1 H1 g1 r1 e1 q1 => ?_
    cases r with
    | true => simp only [if_true] at q1 ⊢; exact useS e1 r1 q1 (hQ.grow g1)
    | false => simp only [Bool.false_eq_true, if_false] at q1 ⊢; exact useS e1 r1 q1 (hQ.grow g1)
  | .while_ c b, X, sc, st, hx, h => by
    cases st <;> first | (simp [okS] at h; done) | skip
    rename_i t bd el p
    cases el <;> first | (simp [okS] at h; done) | skip
    simp only [okS, Bool.and_eq_true] at h
    refine PS.imp (ps_while (by rw [hx.xe]; exact PassesOwn.never) (sB c _ hx h.1) (sSs b _ hx h.2)) fun E σ H ⟨η, μ, ρ, S, ED, hE, hR, hT, hQ⟩ => ?_
    simp only [wpS] at hT
    obtain ⟨W, ⟨m0, w0⟩, turn⟩ := hT
    refine ⟨fun m σ' H' => ∃ ρ' S' μ', Grow μ H μ' H' ∧ Rp X.K η μ' S' H' ∧ RE X.K H' η μ' ρ' σ' ∧ W m ρ' S', ⟨m0, ρ, S, μ, .refl, hR, hE, w0⟩, ?_⟩
    rintro m σ1 H1 ⟨ρ1, S1, μ1, g1, r1, e1, w1⟩
    refine useB e1 r1 (turn m ρ1 S1 w1) fun r S2 μ2 H2 g2 r2 e2 q2 => ?_
    cases r with
    | false => simp only [Bool.false_eq_true, if_false] at q2 ⊢; exact hQ.nx _ _ _ _ _ (g1.trans g2) r2 e2 q2
    | true =>
      simp only [if_true] at q2 ⊢
      refine ⟨fun σ' H' => ∃ ρ' S' μ', Grow μ H μ' H' ∧ Rp X.K η μ' S' H' ∧ RE X.K H' η μ' ρ' σ' ∧ ∃ m', m' < m ∧ W m' ρ' S', fun σ' H' ⟨ρ', S', μ', g, r, e, m', hm, w⟩ => ⟨m', hm, ρ', S', μ', g, r, e, w⟩, ?_⟩
      refine useS e2 r2 q2 ⟨fun ρ' S' σ' μ' H' g r e w => ⟨ρ', S', μ', (g1.trans g2).trans g, r, e, w⟩, fun d S' v μ' H' g r rv q => hQ.rt _ _ _ _ _ ((g1.trans g2).trans g) r rv q,
        fun ρ' S' σ' μ' H' g r e q => hQ.nx _ _ _ _ _ ((g1.trans g2).trans g) r e q, fun ρ' S' σ' μ' H' g r e w => ⟨ρ', S', μ', (g1.trans g2).trans g, r, e, w⟩⟩
  | .for_ t it b, X, sc, st, hx, h => by
    cases st <;> first | (simp [okS] at h; done) | skip
    rename_i t' it' bd el p
    cases el <;> first | (simp [okS] at h; done) | skip
    simp only [okS, Bool.and_eq_true] at h
    obtain ⟨⟨⟨⟨h1, h2⟩, h3⟩, h4⟩, h9⟩ := h
    refine PS.imp (ps_for (by rw [hx.xe]; exact PassesOwn.never) hx.calm (sI it _ _ hx h3 (pairs_of h9)) (sT t _ hx h1 h2) (sSs b _ hx h4) (sI_fold it _ h3)) fun E σ H ⟨η, μ, ρ, S, ED, hE, hR, hT, hQ⟩ => ?_
    simp only [wpS] at hT
    refine ⟨η, μ, ρ, S, _, hE, hR, hT, fun J H1 items I S1 μ1 g1 r1 hW jok => ?_⟩
    obtain ⟨W, w0, wst, turn, fin⟩ := hW
    refine ⟨fun i m σ' H' => i ≤ items.length ∧ m = items.length - i ∧ ∃ ρ' S' μ', Grow μ1 H1 μ' H' ∧ Rp X.K η μ' S' H' ∧ RE X.K H' η μ' ρ' σ' ∧ W i ρ' S', ⟨items.length, Nat.zero_le _, rfl, ρ, S1, μ1, .refl, r1, hE.ext g1.ext, w0⟩, ?_⟩
    rintro i m σ2 H2 ⟨hi, rfl, ρ2, S2, μ2, g2, r2, e2, w2⟩
    obtain ⟨jgo, jstop⟩ := jok i η μ2 S2 H2 g2.ext r2 (wst i ρ2 S2 w2)
    by_cases hlt : i < items.length
    · right
      obtain ⟨go, yl⟩ := jgo hlt
      refine ⟨go, fun σ' H' => i + 1 ≤ items.length ∧ ∃ ρ' S' μ', Grow μ1 H1 μ' H' ∧ Rp X.K η μ' S' H' ∧ RE X.K H' η μ' ρ' σ' ∧ W (i + 1) ρ' S', fun σ' H' hN => ⟨items.length - (i + 1), by omega, hN.1, rfl, hN.2⟩, fun x H3 hy => ?_⟩
      obtain ⟨gy, ry, d, hd, rvd⟩ := yl x H3 hy
      refine gS_run t h2 ry (e2.ext gy.ext) rvd (turn i d ρ2 S2 w2 hd) fun ρ' σ' e' _ _ q => ?_
      have gg : Grow μ1 H1 μ2 H3 := g2.trans gy
      have hG := hQ.grow (g1.trans gg)
      exact useS e' ry q ⟨fun ρ' S' σ' μ' H' g r e w => ⟨hlt, ρ', S', μ', gg.trans g, r, e, w⟩, hG.rt, hG.nx, fun ρ' S' σ' μ' H' g r e w => ⟨hlt, ρ', S', μ', gg.trans g, r, e, w⟩⟩
    · left
      have hi' : i = items.length := by omega
      subst hi'
      exact ⟨jstop (Nat.le_refl _) (Nat.le_refl _), hQ.nx _ _ _ _ _ (g1.trans g2) r2 e2 (fin _ _ w2)⟩
  | .lock s, X, sc, st, hx, h => by
    have h' : okS T N sc s st = true := by
      unfold okS at h
      exact h
    refine PS.imp (ps_lock (sS s st hx h')) fun E σ H ⟨η, μ, ρ, S, ED, hE, hR, hT, hQ⟩ => ?_
    rw [wpS] at hT
    obtain ⟨n, kvs, hc, hT⟩ := hT
    obtain ⟨a, ha, vs, hv, qk⟩ := hR.cell n _ hc
    have hm := List.mem_of_getElem? ha
    refine ⟨a, .dT vs, hv, trivial, fun od => ?_⟩
    have g0 := grow_set (o := .frz od (.dT vs)) hR ha hv
    have qk0 := qk.ext (g0.ext (η := η))
    have fin : ∀ μ' H', Grow μ (upd H a (.frz od (.dT vs))) μ' H' → (μ'[n]? = some a ∧ H' a = some (.frz od (.dT vs)) ∧ RKs X.K H' η μ' kvs vs) := fun μ' H' g => by
      refine ⟨?_, g.frz _ _ _ upd_same, qk0.ext g.ext⟩
      obtain ⟨more, em⟩ := g.pre
      rw [em, List.getElem?_append_left (List.getElem?_eq_some_iff.mp ha).1]; exact ha
    refine ⟨η, μ, ρ, S.set n (.dlk kvs), _, hE.ext g0.ext, rp_lock hR ha hv qk, hT, ⟨fun ρ' S' σ' μ' H' g r e q => ?_, fun d S' v μ' H' g r e q => ?_, fun ρ' S' σ' μ' H' g r e q => ?_, fun ρ' S' σ' μ' H' g r e q => ?_⟩⟩
    · obtain ⟨f1, f2, f3⟩ := fin _ _ g
      exact ⟨f2, hQ.nx _ _ _ _ _ (grow_un lkT (fun _ _ z => nomatch z) hm hv g) (rp_unlock r f1 f2 f3) (e.un lkT (List.mem_of_getElem? f1) f2) q⟩
    · obtain ⟨f1, f2, f3⟩ := fin _ _ g
      exact ⟨f2, hQ.rt _ _ _ _ _ (grow_un lkT (fun _ _ z => nomatch z) hm hv g) (rp_unlock r f1 f2 f3) (e.un lkT (List.mem_of_getElem? f1) f2) q⟩
    · obtain ⟨f1, f2, f3⟩ := fin _ _ g
      exact ⟨f2, hQ.bk _ _ _ _ _ (grow_un lkT (fun _ _ z => nomatch z) hm hv g) (rp_unlock r f1 f2 f3) (e.un lkT (List.mem_of_getElem? f1) f2) q⟩
    · obtain ⟨f1, f2, f3⟩ := fin _ _ g
      exact ⟨f2, hQ.ct _ _ _ _ _ (grow_un lkT (fun _ _ z => nomatch z) hm hv g) (rp_unlock r f1 f2 f3) (e.un lkT (List.mem_of_getElem? f1) f2) q⟩
  | .lockK s, X, sc, st, hx, h => by
    have h' : okS T N sc s st = true := by
      unfold okS at h
      exact h
    refine PS.imp (ps_lock (sS s st hx h')) fun E σ H ⟨η, μ, ρ, S, ED, hE, hR, hT, hQ⟩ => ?_
    rw [wpS] at hT
    obtain ⟨n, kvs, hc, hT⟩ := hT
    obtain ⟨a, ha, vs, hv, qk⟩ := hR.cell n _ hc
    have hm := List.mem_of_getElem? ha
    refine ⟨a, .dK vs, hv, trivial, fun od => ?_⟩
    have g0 := grow_set (o := .frz od (.dK vs)) hR ha hv
    have qk0 := qk.ext (g0.ext (η := η))
    have fin : ∀ μ' H', Grow μ (upd H a (.frz od (.dK vs))) μ' H' → (μ'[n]? = some a ∧ H' a = some (.frz od (.dK vs)) ∧ RKs X.K H' η μ' kvs vs) := fun μ' H' g => by
      refine ⟨?_, g.frz _ _ _ upd_same, qk0.ext g.ext⟩
      obtain ⟨more, em⟩ := g.pre
      rw [em, List.getElem?_append_left (List.getElem?_eq_some_iff.mp ha).1]; exact ha
    refine ⟨η, μ, ρ, S.set n (.dkl kvs), _, hE.ext g0.ext, rp_lockK hR ha hv qk, hT, ⟨fun ρ' S' σ' μ' H' g r e q => ?_, fun d S' v μ' H' g r e q => ?_, fun ρ' S' σ' μ' H' g r e q => ?_, fun ρ' S' σ' μ' H' g r e q => ?_⟩⟩
    · obtain ⟨f1, f2, f3⟩ := fin _ _ g
      exact ⟨f2, hQ.nx _ _ _ _ _ (grow_un lkK (fun _ _ z => nomatch z) hm hv g) (rp_unlockK r f1 f2 f3) (e.un lkK (List.mem_of_getElem? f1) f2) q⟩
    · obtain ⟨f1, f2, f3⟩ := fin _ _ g
      exact ⟨f2, hQ.rt _ _ _ _ _ (grow_un lkK (fun _ _ z => nomatch z) hm hv g) (rp_unlockK r f1 f2 f3) (e.un lkK (List.mem_of_getElem? f1) f2) q⟩
    · obtain ⟨f1, f2, f3⟩ := fin _ _ g
      exact ⟨f2, hQ.bk _ _ _ _ _ (grow_un lkK (fun _ _ z => nomatch z) hm hv g) (rp_unlockK r f1 f2 f3) (e.un lkK (List.mem_of_getElem? f1) f2) q⟩
    · obtain ⟨f1, f2, f3⟩ := fin _ _ g
      exact ⟨f2, hQ.ct _ _ _ _ _ (grow_un lkK (fun _ _ z => nomatch z) hm hv g) (rp_unlockK r f1 f2 f3) (e.un lkK (List.mem_of_getElem? f1) f2) q⟩
theorem sSs : ∀ (cs : List CS) {X : Cx} {sc : SS} (sts : List Stmt), Here T G k N X sc → okSs T N sc cs sts = true → PSs X sts (sOf X.K (wpSs G cs))
  | [], X, sc, sts, hx, h => by
    cases sts with
    | cons _ _ => simp [okSs] at h
    | nil =>
      refine PSs.imp pss_nil fun E σ H ⟨η, μ, ρ, S, ED, hE, hR, hT, hQ⟩ => ?_
      simp only [wpSs] at hT
      exact hQ.nx _ _ _ _ _ .refl hR hE hT
  | c :: cs, X, sc, sts, hx, h => by
    cases sts with
    | nil => simp [okSs] at h
    | cons st sts =>
      simp only [okSs, Bool.and_eq_true] at h
      refine PSs.imp (pss_cons (sS c st hx h.1) (sSs cs sts hx h.2)) fun E σ H ⟨η, μ, ρ, S, ED, hE, hR, hT, hQ⟩ => ?_
      simp only [wpSs] at hT
      refine useS hE hR hT ⟨fun ρ' S' σ' μ' H' g r e q => useS e r q (hQ.grow g), hQ.rt, hQ.bk, hQ.ct⟩
end
end
end DL

namespace DL
open PySem PySem.Spec PyProof.Rows L2
def startD (n : Nat) (ds : List D) : DEnv := ds.map some ++ List.replicate (n - ds.length) none
theorem re_start {K : PySem.W.Frag} {H : Hp} {η μ : List Addr} {N : List Str} {ds : List D} {vs : List V} (r : RVs K H η μ ds vs) : RE K H η μ (startD N.length ds) (L2.start N vs) := by
  have hl := r.length
  refine ⟨by simp [startD, L2.start, hl], fun i d h => ?_⟩
  unfold startD at h
  by_cases hi : i < ds.length
  · rw [List.getElem?_append_left (by simpa using hi), List.getElem?_map] at h
    rw [List.getElem?_eq_getElem hi] at h
    simp at h
    obtain ⟨v, e, rv⟩ := r.get (List.getElem?_eq_getElem hi)
    refine ⟨v, ?_, by rw [← h]; exact rv⟩
    unfold L2.start
    rw [List.getElem?_append_left (by simp; omega), List.getElem?_map, e]
    rfl
  · rw [List.getElem?_append_right (by simpa using hi), List.getElem?_replicate] at h
    split at h <;> simp at h
/-- a def keeps what its body's reading tells -/
theorem fn_sound {P : Program} {w : World} {K : PySem.W.Frag} {mg : Str → Option Value} {base : Heap} {T : Tb} {G : Fns} {k : Nat} {x qual : Str} {st : Stmt} {f : Addr} {fd : FuncData} {N ps : List Str} {core : List CS} {sp : List D → DStore → QE → Prop}
    (F : L2.Fun K x qual st f fd) (Sc : FnScope N ps (L2.defScope st)) (tab : Tab P w K mg base k T G) (ok : okSs T N ⟨L2.defScope st, L2.defScope st⟩ core (L2.defBody st) = true)
    (hlen : ∀ ds S Q, sp ds S Q → ds.length = ps.length) (hb : ∀ ds S Q, sp ds S Q → wpSs G core (startD N.length ds) S { nx := fun _ S' => Q .non S', rt := Q }) :
    FnG P w K mg base (k + 1) f fd ps (spOf K sp) := by
  refine fnG_of F Sc (fun vs H Q ⟨η, μ, S, ds, QD, r, rv, h, hq⟩ => by rw [← rv.length]; exact hlen _ _ _ h) fun cdv A outer s H vs Q hg hr h => ?_
  obtain ⟨η, μ, S, ds, QD, r, rv, h, hq⟩ := h
  have hx : Here T G k N (cxG P w K mg base N qual st f cdv A outer s H) ⟨L2.defScope st, L2.defScope st⟩ :=
    ⟨tab, rfl, Sc.nd, rfl, Sc.kind, rfl, hr, hg, rfl, fun _ _ => rfl⟩
  refine ⟨_, sSs core _ hx ok, useS (re_start rv) r (hb ds S QD h) ⟨?_, ?_, fun _ _ _ _ _ _ _ _ z => z.elim, fun _ _ _ _ _ _ _ _ z => z.elim⟩⟩
  · exact fun ρ' S' σ' μ' H' g r' e q => hq _ _ ⟨.non, S', μ', g, r', .non, q⟩
  · exact fun d S' v μ' H' g r' rv' q => hq _ _ ⟨d, S', μ', g, r', rv', q⟩
theorem Tab.none {P : Program} {w : World} {K : PySem.W.Frag} {mg : Str → Option Value} {base : Heap} {gls bis : List Str} {G : Fns}
    (gl : ∀ (j : Nat) (x : Str), gls[j]? = some x → ∃ u v, mg x = some u ∧ RelV v u ∧ (∀ H η μ, RV K H η μ (G.gl j) v) ∧ ∀ a, v = .ref a → ∃ o, K.lookup a = some o ∧ o.cls = .type "tuple" ∧ o.dict = none) (bi : ∀ x ∈ bis, mg x = none) : Tab P w K mg base 0 ⟨[], gls, bis⟩ G :=
  ⟨fun j i h => by simp at h, gl, bi⟩
theorem Tab.add {P : Program} {w : World} {K : PySem.W.Frag} {mg : Str → Option Value} {base : Heap} {T : Tb} {G : Fns} {k : Nat} {i : FI} {f : Addr} {fd : FuncData} (tab : Tab P w K mg base k T G)
    (F : FnG P w K mg base (k + 1) f fd i.ps (spOf K (G.fn T.fns.length))) (hm : mg i.name = some (.ref f)) (hk : PySem.W.keepIn K (.ref f) = true) (hb : i.ko = false → KBinds K fd i.ps [] (fun us _ => us) (fun vs _ => vs))
    (hkw : ∀ p ∈ i.kws, KBinds K fd i.ps p.1 (gK .none p.1.length p.2) (gK .non p.1.length p.2)) :
    Tab P w K mg base (k + 1) ⟨T.fns ++ [i], T.gls, T.bis⟩ G := by
  refine ⟨fun j i' h => ?_, tab.gl, tab.bi⟩
  by_cases hj : j < T.fns.length
  · have h' : T.fns[j]? = some i' := by
      have := h
      simp only at this
      rwa [List.getElem?_append_left hj] at this
    obtain ⟨f, fd, F, r⟩ := tab.fn j i' h'
    exact ⟨f, fd, F.mono (Nat.le_succ _), r⟩
  · have hj' : j = T.fns.length := by
      have := (List.getElem?_eq_some_iff.mp h).1
      simp at this
      omega
    subst hj'
    simp at h
    subst h
    exact ⟨f, fd, F, hm, hk, hb, hkw⟩
/-- how arguments come by their places, by names -/
theorem kb_pos {K : PySem.W.Frag} {fd : FuncData} {ps : List Str} (h : ∀ us : List Value, us.length = ps.length → bindArgs fd ⟨us, []⟩ = pure (ps.zip us)) : KBinds K fd ps [] (fun us _ => us) (fun vs _ => vs) :=
  ⟨fun s us ws _ hl => .of_eq (h us hl), fun a _ => a⟩
theorem vals_getD {zs : List V} {ws : List Value} (r : Vals zs ws) (n : Nat) : RelV (zs.getD n .non) (ws.getD n .none) := by
  by_cases h : n < zs.length
  · obtain ⟨u, e, ru⟩ := r.get (List.getElem?_eq_getElem h)
    rw [List.getD_eq_getElem?_getD, List.getD_eq_getElem?_getD, List.getElem?_eq_getElem h, e]
    exact ru
  · rw [List.getD_eq_getElem?_getD, List.getD_eq_getElem?_getD, List.getElem?_eq_none_iff.mpr (by omega), List.getElem?_eq_none_iff.mpr (by rw [← r.length]; omega)]
    rfl
theorem vals_perm {zs : List V} {ws : List Value} (r : Vals zs ws) : ∀ l : List Nat, Vals (l.map fun n => zs.getD n .non) (l.map fun n => ws.getD n .none)
  | [] => .nil
  | n :: l => .cons (vals_getD r n) (vals_perm r l)
theorem kb_kw {K : PySem.W.Frag} {fd : FuncData} {ps ks : List Str} {perm : List Nat} (hp : ps ≠ [])
    (h : ∀ us ws : List Value, ws.length = ks.length → us.length + perm.length = ps.length → bindArgs fd ⟨us, ks.zip ws⟩ = pure (ps.zip (us ++ perm.map fun n => ws.getD n .none))) : KBinds K fd ps ks (gK .none ks.length perm) (gK .non ks.length perm) := by
  refine ⟨fun s us ws _ hl => ?_, fun a b => ?_⟩
  · unfold gK at hl ⊢
    by_cases hw : ws.length = ks.length
    · rw [if_pos hw] at hl ⊢
      exact .of_eq (h us ws hw (by simpa using hl))
    · rw [if_neg hw] at hl
      exact absurd (List.eq_nil_of_length_eq_zero hl.symm) hp
  · unfold gK
    rw [b.length]
    split
    · exact a.append (vals_perm b perm)
    · exact .nil

/-! ### the law's end -/
/-- what a law's def promises -/
def spLaw : List D → DStore → QE → Prop := fun ds S Q => ∃ ns : List Int, ds = [.scr (ns.map D.int)] ∧ ns.length ≤ 63 ∧ ∀ S', Q (.bl true) S'
theorem rvs_ints {K : PySem.W.Frag} {H : Hp} {η μ : List Addr} : ∀ ns : List Int, RVs K H η μ (ns.map D.int) (ns.map V.int)
  | [] => .nil
  | n :: ns => .cons (.int n) (rvs_ints ns)
theorem law_end {P : Program} {w : World} {K : PySem.W.Frag} {mg mb : Str → Option Value} {k : Nat} {fa a : Addr} {fd : FuncData} {x : Str} {s1 : Shared} {vs : List Value} {ns : List Int}
    (kin : K.In s1.heap) (gns : s1.heap.Ns mainGlobals mg) (bns : s1.heap.Ns builtinsNs mb) (bb : ∀ x : Str, x ≠ "__name__" → mb x = bootBuiltins x) (lim : s1.heap.NoLimit) (nog : s1.gens = #[])
    (obj : s1.heap.get? a = some { cls := .type "list", data := .seq vs.toArray }) (hi : IntsAre vs ns) (len : ns.length ≤ 63) (room : Room k callerA)
    (F : ∀ base : Heap, K.In base → base.Ns mainGlobals mg → FnG P w K mg base k fa fd [x] (spOf K spLaw)) (binds : ∀ (s : Shared) (u : Value), BindsTo s fd ⟨[u], []⟩ [(x, u)]) :
    codeAny (model P w) callerA (.call (.ref fa) ⟨[.ref a], []⟩) (fun r s' => r = .ok (.ret (.bool true)) ∧ OldK s1.heap s'.heap ∧ s'.os = s1.os ∧ AllBare s'.gens) s1 := by
  have hz : ns.length ≤ sizeLine := Nat.le_trans len (by decide)
  have rel := vals_ints hi
  have hlen := hi.length
  let o : Obj := { cls := .type "list", data := .seq vs.toArray }
  -- whatever is tracked: nothing, or the script alone
  have go : ∀ H : Hp, (∀ b, b ≠ a → H b = none) → (H a = none ∨ (H a = some (.frz o (.lst (ns.map V.int))) ∧ K.lookup a = none)) → ((∃ o, H a = some (.frz o (.lst (ns.map V.int)))) ∨ ∀ H', SqL K H' a (ns.map V.int)) →
      codeAny (model P w) callerA (.call (.ref fa) ⟨[.ref a], []⟩) (fun r s' => r = .ok (.ret (.bool true)) ∧ OldK s1.heap s'.heap ∧ s'.os = s1.os ∧ AllBare s'.gens) s1 := by
    intro H Hn Ha hscr
    have hok : HOk P w H s1.heap := by
      intro b u e
      by_cases hb : b = a
      · subst hb
        rcases Ha with z | ⟨z, _⟩
        · rw [z] at e; cases e
        · rw [z] at e; cases e
          exact ⟨obj, by simpa using hz, vs, _, rel, obj⟩
      · rw [Hn b hb] at e; cases e
    have keep : ∀ {b : Addr} {u : Obj}, s1.heap.get? b = some u → H b = none → (hidT s1.heap H).get? b = some u := fun e hb => hidT_get e hb
    have nsK : ∀ {b : Addr} {m : Str → Option Value}, s1.heap.Ns b m → (hidT s1.heap H).Ns b m := by
      rintro b m ⟨u, es, ep, e, d, r⟩
      refine ⟨u, es, ep, keep e (Hn b ?_), d, r⟩
      rintro rfl
      rw [obj] at e; cases e
      cases d
    have kinB : K.In (hidT s1.heap H) := fun b u e => keep (kin b u e) (by
      by_cases hb : b = a
      · subst hb
        rcases Ha with z | ⟨_, z⟩
        · exact z
        · rw [z] at e; cases e
      · exact Hn b hb)
    have md : Mod K mg (hidT s1.heap H) := ⟨kinB, nsK gns, ⟨mb, nsK bns, bb⟩, by obtain ⟨mc, h1, h2⟩ := lim; exact ⟨mc, nsK h1, h2⟩⟩
    have e0 : Env0 P w K mg (hidT s1.heap H) callerA [] s1 H :=
      ⟨rfl, md, fun b u e => of_hidT e, Nat.le_of_eq (hidT_size _ _), trivial, fun b hb => (by cases hb), hok, .of_eq nog⟩
    have sp : spOf K spLaw [.ref a] H (fun v _ => v = .bl true) := by
      refine ⟨[], [], [], [.scr (ns.map D.int)], fun d _ => d = .bl true, ⟨rfl, List.nodup_nil, fun n c e => by simp at e, fun b hb => by cases hb⟩, .cons (.scr hscr (rvs_ints ns)) .nil, ⟨ns, rfl, len, fun _ => rfl⟩, ?_⟩
      rintro v H' ⟨d, S', μ', g, r, rv, rfl⟩
      cases rv
      rfl
    refine codeAny_mono ((F _ kinB (nsK gns)).run callerA [] s1 H ⟨[.ref a], []⟩ [.ref a] [.ref a] _ rfl room e0 (binds s1 (.ref a)) (.cons rfl .nil) sp) fun res s' out => ?_
    match res, out with
    | .error er, out => exact out.elim
    | .ok .next, out => exact out.elim
    | .ok .brk, out => exact out.elim
    | .ok .cont, out => exact out.elim
    | .ok (.ret u), ⟨v, H', os, bare, un, hok', rv, q⟩ =>
      obtain rfl : v = .bl true := q
      obtain rfl : u = Value.bool true := rv
      refine ⟨rfl, OldK.of_keep fun b u e => ?_, os, bare⟩
      by_cases hb : H b = none
      · exact un.keep b u e hb (fun z => by cases z) (fun z => by cases z)
      · have hba : b = a := Classical.byContradiction fun z => hb (Hn b z)
        subst hba
        rcases Ha with z | ⟨z, _⟩
        · exact absurd z hb
        · obtain ⟨e1, _⟩ := hok' b _ (un.frzs b o _ z)
          rw [obj] at e; cases e
          exact e1
  cases hk : K.lookup a with
  | none => exact go (fun b => if b = a then some (.frz o (.lst (ns.map V.int))) else none) (fun b hb => if_neg hb) (.inr ⟨if_pos rfl, hk⟩) (.inl ⟨o, if_pos rfl⟩)
  | some ob =>
    have e := kin a ob hk
    rw [obj] at e
    cases e
    refine go (fun _ => none) (fun _ _ => rfl) (.inl rfl) (.inr fun H' => .inr ⟨_, vs.toArray, _, hk, rfl, rfl, rfl, ?_, by simpa using rel⟩)
    rw [List.size_toArray, hlen]; exact hz
/-- the goal that the head leaves, from the law's promise -/
theorem walk_law {l : PySem.W.OpenLaw} {k : Nat} {q : Program} {loose : List Str} {XP : (Str → Option Value) → Heap → Prop} {YP : World → Heap → Prop} {d : DefRec} {K : Params → PySem.W.Frag} {x : Str}
    (hn : l.most = some 63) (hdf : d.params.defaults = []) (room : Room k callerA) (hY : ∀ (w : World) (h : Heap), YP w h → (K w.params).In h)
    (F : ∀ (w : World) (mg : Str → Option Value) (fa : Addr) (h : Heap), (K w.params).In h → h.Ns mainGlobals mg → mg d.name = some (.ref fa) →
      ∃ fd : FuncData, (∀ (s : Shared) (u : Value), BindsTo s fd ⟨[u], []⟩ [(x, u)]) ∧ ∀ base : Heap, (K w.params).In base → base.Ns mainGlobals mg → FnG l.prog w (K w.params) mg base k fa fd [x] (spOf (K w.params) spLaw)) :
    PySem.W.WalkO q loose XP YP l.row.toRowW d [] (fun f vs => PySem.call f vs) := by
  refine Att.attach_call hn hdf ?_
  intro w s0 s1 mg mb fa o pm cd doc a vs ns Gr Yp ho hd hcd hmg hobj hints hlen hg
  obtain ⟨fd, hb, hF⟩ := F w mg fa _ (hY w _ Yp) Gr.T.g hmg
  exact law_end (hY w _ Yp) Gr.T.g Gr.T.b Gr.T.builtins Gr.T.nolimit hg hobj hints hlen room hF hb
end DL

namespace DL
open PySem PySem.Spec PyProof.Rows L2
/-! ### walking and gathering -/
def rng (lo hi : Int) : List Int := (List.range (hi - lo).toNat).map fun (k : Nat) => lo + k
theorem rangeD_eq (lo hi : Int) : rangeD lo hi = (rng lo hi).map D.int := by simp [rangeD, rng, List.map_map, Function.comp_def]
theorem rng_len (lo hi : Int) : (rng lo hi).length = (hi - lo).toNat := by simp [rng]
theorem mem_rng {lo hi x : Int} : x ∈ rng lo hi ↔ lo ≤ x ∧ x < hi := by
  simp only [rng, List.mem_map, List.mem_range]
  constructor
  · rintro ⟨k, hk, rfl⟩; omega
  · intro h; exact ⟨(x - lo).toNat, by omega, by omega⟩
theorem walk_range {lo hi : Int} {I : DStore → Prop} {ρ : DEnv} {S : DStore} {turn : D → DEnv → DStore → (DEnv → DStore → Prop) → Prop} {Q : DEnv → DStore → Prop} (Pv : Nat → DEnv → DStore → Prop) (h0 : Pv 0 ρ S) (hI : ∀ i ρ S, Pv i ρ S → I S)
    (hs : ∀ (i : Nat) ρ S, lo + i < hi → Pv i ρ S → turn (.int (lo + i)) ρ S (Pv (i + 1))) (hd : ∀ ρ S, Pv (hi - lo).toNat ρ S → Q ρ S) : wpWalk (rangeD lo hi) I ρ S turn Q := by
  refine ⟨Pv, h0, hI, fun i x ρ S h e => ?_, fun ρ S h => hd ρ S (by simpa [rangeD] using h)⟩
  have hi' : i < (hi - lo).toNat := by
    have := (List.getElem?_eq_some_iff.mp e).1
    simpa [rangeD] using this
  unfold rangeD at e
  rw [List.getElem?_map, List.getElem?_range hi'] at e
  cases e
  exact hs i ρ S (by omega) h
theorem walk_list {items : List D} {I : DStore → Prop} {ρ : DEnv} {S : DStore} {turn : D → DEnv → DStore → (DEnv → DStore → Prop) → Prop} {Q : DEnv → DStore → Prop} (Pv : Nat → DEnv → DStore → Prop) (h0 : Pv 0 ρ S) (hI : ∀ i ρ S, Pv i ρ S → I S)
    (hs : ∀ (i : Nat) (x : D) ρ S, items[i]? = some x → Pv i ρ S → turn x ρ S (Pv (i + 1))) (hd : ∀ ρ S, Pv items.length ρ S → Q ρ S) : wpWalk items I ρ S turn Q :=
  ⟨Pv, h0, hI, fun i x ρ S h e => hs i x ρ S e h, hd⟩
/-- one after another, written out -/
theorem walk_nil {I : DStore → Prop} {ρ : DEnv} {S : DStore} {turn : D → DEnv → DStore → (DEnv → DStore → Prop) → Prop} {Q : DEnv → DStore → Prop} (hI : I S) (h : Q ρ S) : wpWalk [] I ρ S turn Q :=
  ⟨fun i ρ' S' => i = 0 ∧ ρ' = ρ ∧ S' = S, ⟨rfl, rfl, rfl⟩, fun i ρ' S' ⟨_, _, e⟩ => e ▸ hI, fun i x _ _ _ e => by simp at e, fun ρ' S' ⟨_, e1, e2⟩ => by rw [e1, e2]; exact h⟩
/-- a comprehension that changes nothing: a map -/
theorem gather_map {α : Type} {xs : List α} (mk : α → D) (f : α → D) {I : DStore → Prop} {S : DStore} {turn : D → DStore → (Option D → DStore → Prop) → Prop} {Q : List D → DStore → Prop} (hl : xs.length ≤ sizeLine) (hI : I S)
    (hs : ∀ x ∈ xs, ∀ N : Option D → DStore → Prop, N (some (f x)) S → turn (mk x) S N) (hQ : Q (xs.map f) S) : wpGather (xs.map mk) I S turn Q := by
  refine ⟨fun i acc S' => S' = S ∧ i ≤ xs.length ∧ acc = (xs.take i).map f, ⟨rfl, Nat.zero_le _, by simp⟩, ?_, by simpa using hl, ?_, ?_⟩
  · rintro i acc S' ⟨rfl, hi, rfl⟩
    exact ⟨hI, by simp; omega, by simpa using hi⟩
  · rintro i x acc S' ⟨rfl, hi, rfl⟩ e
    rw [List.getElem?_map] at e
    obtain ⟨y, ey, rfl⟩ := Option.map_eq_some_iff.mp e
    have hlt : i < xs.length := (List.getElem?_eq_some_iff.mp ey).1
    refine hs y (List.mem_of_getElem? ey) _ ⟨rfl, hlt, ?_⟩
    rw [List.take_add_one, ey, List.map_append]; rfl
  · rintro acc S' ⟨rfl, hi, rfl⟩
    rw [List.length_map, List.take_length]; exact hQ
theorem gather_range {lo hi : Int} (f : Int → D) {I : DStore → Prop} {S : DStore} {turn : D → DStore → (Option D → DStore → Prop) → Prop} {Q : List D → DStore → Prop} (hl : (hi - lo).toNat ≤ sizeLine) (hI : I S)
    (hs : ∀ x, lo ≤ x → x < hi → ∀ N : Option D → DStore → Prop, N (some (f x)) S → turn (.int x) S N) (hQ : Q ((rng lo hi).map f) S) : wpGather (rangeD lo hi) I S turn Q := by
  rw [rangeD_eq]
  exact gather_map D.int f (by rw [rng_len]; exact hl) hI (fun x hx => hs x (mem_rng.mp hx).1 (mem_rng.mp hx).2) hQ
/-- a comprehension by an invariant -/
theorem gather_inv {items : List D} {I : DStore → Prop} {S : DStore} {turn : D → DStore → (Option D → DStore → Prop) → Prop} {Q : List D → DStore → Prop} (Pv : Nat → List D → DStore → Prop) (hl : items.length ≤ sizeLine) (h0 : Pv 0 [] S) (hI : ∀ i acc S, Pv i acc S → I S ∧ acc.length ≤ i)
    (hs : ∀ (i : Nat) x acc S, items[i]? = some x → Pv i acc S → ∀ N : Option D → DStore → Prop, (∀ y S', Pv (i + 1) (acc ++ [y]) S' → N (some y) S') → (∀ S', Pv (i + 1) acc S' → N none S') → turn x S N) (hQ : ∀ acc S, Pv items.length acc S → Q acc S) : wpGather items I S turn Q := by
  refine ⟨fun i acc S' => Pv i acc S' ∧ i ≤ items.length, ⟨h0, Nat.zero_le _⟩, fun i acc S' ⟨h, hi⟩ => ⟨(hI i acc S' h).1, (hI i acc S' h).2, hi⟩, hl, fun i x acc S' ⟨h, hi⟩ e => ?_, fun acc S' ⟨h, _⟩ => hQ acc S' h⟩
  have hlt := (List.getElem?_eq_some_iff.mp e).1
  exact hs i x acc S' e h _ (fun y S'' hP => ⟨hP, hlt⟩) fun S'' hP => ⟨hP, hlt⟩
/-! ### data facts -/
theorem atI_nat' {α : Type} {xs : List α} {i : Int} {x : α} (h0 : 0 ≤ i) (h : xs[i.toNat]? = some x) : atI xs i = some x := by
  have hl := (List.getElem?_eq_some_iff.mp h).1
  unfold atI ixN
  rw [if_pos h0, if_pos (by omega)]
  exact h
theorem mapM_bl (bs : List Bool) : (bs.map D.bl).mapM blOf = some bs := by
  induction bs with
  | nil => rfl
  | cons b bs ih => simp [List.mapM_cons, blOf, ih]
theorem mapM_in (bs : List Int) : (bs.map D.int).mapM inOf = some bs := by
  induction bs with
  | nil => rfl
  | cons b bs ih => simp [List.mapM_cons, inOf, ih]
theorem mul_small_left {i j : Int} (h1 : -(2 ^ 64) < i) (h2 : i < 2 ^ 64) : MulOk i j := .inl (.inl ⟨h1, h2⟩)
theorem mul_small_right {i j : Int} (h1 : -(2 ^ 64) < j) (h2 : j < 2 ^ 64) : MulOk i j := .inl (.inr ⟨h1, h2⟩)
theorem div_small {j : Int} (h0 : j ≠ 0) (h : j.natAbs < 2 ^ 9000) : DivOk j := ⟨h0, PySem.Flt.log2_lt_of (by decide) h⟩
theorem pow_ok {i j : Int} (h0 : 0 ≤ j) (h1 : j ≤ 1000000) (h2 : i.natAbs < 2 ^ 64) : CPow i j := ⟨h0, h1, h2⟩
/-! ### texts of data -/
theorem log2_small {i : Int} (h : i.natAbs < 10 ^ 12) : i.natAbs.log2 < 1920 := by
  have h40 : i.natAbs < 2 ^ 40 := Nat.lt_of_lt_of_le h (by decide)
  have := PySem.Flt.log2_lt_of (by decide) h40
  omega
mutual
/-- a bound on the text's length; none where a number is too great -/
def costP : PyData → Option Nat
  | .none => some 8
  | .bool _ => some 8
  | .int i => if i.natAbs < 10 ^ 12 then some 16 else none
  | .str x => some (reprText x).length
  | .list xs => (costPs xs).map (· + 8)
  | .tuple xs => (costPs xs).map (· + 8)
  | .dict _ => none
def costPs : List PyData → Option Nat
  | [] => some 0
  | x :: xs => (costP x).bind fun a => (costPs xs).map (a + 2 + ·)
end
mutual
theorem cost_ok : ∀ (p : PyData) (c : Nat), costP p = some c → p.showable = true ∧ p.hasDict = false ∧ p.shown.length ≤ c
  | .none, c, h => by simp [costP] at h; subst h; exact ⟨rfl, rfl, by decide⟩
  | .bool b, c, h => by simp [costP] at h; subst h; exact ⟨rfl, rfl, by cases b <;> decide⟩
  | .int i, c, h => by
    simp only [costP] at h
    split at h
    · rename_i hi
      cases h
      exact ⟨by simp [PyData.showable, log2_small hi], rfl, Nat.le_trans (PyData.shown_int_le hi) (by decide)⟩
    · cases h
  | .str x, c, h => by simp [costP] at h; subst h; exact ⟨rfl, rfl, Nat.le_refl _⟩
  | .list xs, c, h => by
    simp only [costP, Option.map_eq_some_iff] at h
    obtain ⟨n, hn, rfl⟩ := h
    obtain ⟨a, b, d⟩ := costs_ok xs n hn
    refine ⟨a, b, ?_⟩
    have := listText_len_le (PyData.shownAll xs)
    show (listText (PyData.shownAll xs)).length ≤ _
    omega
  | .tuple xs, c, h => by
    simp only [costP, Option.map_eq_some_iff] at h
    obtain ⟨n, hn, rfl⟩ := h
    obtain ⟨a, b, d⟩ := costs_ok xs n hn
    refine ⟨a, b, ?_⟩
    have := tupleText_len_le (PyData.shownAll xs)
    show (tupleText (PyData.shownAll xs)).length ≤ _
    omega
  | .dict _, c, h => by simp [costP] at h
theorem costs_ok : ∀ (xs : List PyData) (c : Nat), costPs xs = some c → PyData.showableAll xs = true ∧ PyData.hasDictAll xs = false ∧ ((PyData.shownAll xs).map (·.length)).sum + 2 * (PyData.shownAll xs).length ≤ c
  | [], c, h => by simp [costPs] at h; subst h; exact ⟨rfl, rfl, by simp [PyData.shownAll]⟩
  | x :: xs, c, h => by
    simp only [costPs, Option.bind_eq_some_iff, Option.map_eq_some_iff] at h
    obtain ⟨n, hn, m, hm, rfl⟩ := h
    obtain ⟨a, b, d⟩ := cost_ok x n hn
    obtain ⟨a', b', d'⟩ := costs_ok xs m hm
    refine ⟨by simp [PyData.showableAll, a, a'], by simp [PyData.hasDictAll, b, b'], ?_⟩
    simp only [PyData.shownAll, List.map_cons, List.sum_cons, List.length_cons]
    omega
end
theorem rep_ok {p : PyData} {c : Nat} (h : costP p = some c) (hc : c ≤ 16000000) (hd : p.depth ≤ 50) : RepOk p := by
  obtain ⟨a, b, d⟩ := cost_ok p c h
  exact ⟨a, hd, b, Nat.le_trans d (Nat.le_trans hc (by decide))⟩
mutual
/-- all numbers small -/
def okP : PyData → Bool
  | .none => true
  | .bool _ => true
  | .int i => decide (i.natAbs < 10 ^ 12)
  | .str x => decide ((reprText x).length ≤ 1000)
  | .list xs => okPs xs
  | .tuple xs => okPs xs
  | .dict _ => false
def okPs : List PyData → Bool
  | [] => true
  | x :: xs => okP x && okPs xs
/-- how many signs at most -/
def szP : PyData → Nat
  | .none => 8
  | .bool _ => 8
  | .int _ => 16
  | .str _ => 1000
  | .list xs => szPs xs + 8
  | .tuple xs => szPs xs + 8
  | .dict _ => 0
def szPs : List PyData → Nat
  | [] => 0
  | x :: xs => szP x + 2 + szPs xs
end
mutual
theorem szP_ok : ∀ p : PyData, okP p = true → p.showable = true ∧ p.hasDict = false ∧ p.shown.length ≤ szP p
  | .none, h => ⟨rfl, rfl, by decide⟩
  | .bool b, h => ⟨rfl, rfl, by cases b <;> decide⟩
  | .int i, h => by
    simp only [okP, decide_eq_true_eq] at h
    exact ⟨by simp [PyData.showable, log2_small h], rfl, Nat.le_trans (PyData.shown_int_le h) (show 13 ≤ 16 by decide)⟩
  | .str x, h => by simp only [okP, decide_eq_true_eq] at h; exact ⟨rfl, rfl, h⟩
  | .list xs, h => by
    simp only [okP] at h
    obtain ⟨a, b, d⟩ := szPs_ok xs h
    refine ⟨a, b, ?_⟩
    have := listText_len_le (PyData.shownAll xs)
    show (listText (PyData.shownAll xs)).length ≤ szPs xs + 8
    omega
  | .tuple xs, h => by
    simp only [okP] at h
    obtain ⟨a, b, d⟩ := szPs_ok xs h
    refine ⟨a, b, ?_⟩
    have := tupleText_len_le (PyData.shownAll xs)
    show (tupleText (PyData.shownAll xs)).length ≤ szPs xs + 8
    omega
  | .dict _, h => by simp [okP] at h
theorem szPs_ok : ∀ xs : List PyData, okPs xs = true → PyData.showableAll xs = true ∧ PyData.hasDictAll xs = false ∧ ((PyData.shownAll xs).map (·.length)).sum + 2 * (PyData.shownAll xs).length ≤ szPs xs
  | [], h => ⟨rfl, rfl, by simp [PyData.shownAll]⟩
  | x :: xs, h => by
    simp only [okPs, Bool.and_eq_true] at h
    obtain ⟨a, b, d⟩ := szP_ok x h.1
    obtain ⟨a', b', d'⟩ := szPs_ok xs h.2
    refine ⟨by simp [PyData.showableAll, a, a'], by simp [PyData.hasDictAll, b, b'], ?_⟩
    simp only [PyData.shownAll, List.map_cons, List.sum_cons, List.length_cons, szPs]
    omega
end
theorem rep_ok2 {p : PyData} (h : okP p = true) (hs : szP p ≤ 16000000) (hd : p.depth ≤ 50) : RepOk p := by
  obtain ⟨a, b, d⟩ := szP_ok p h
  exact ⟨a, hd, b, Nat.le_trans d (Nat.le_trans hs (by decide))⟩
end DL

namespace DL
open PySem PySem.Spec PyProof.Rows L2
/-! ### step by step: each rule fires where the environment is written out -/
def lcTurn (G : Fns) (elt : CE) (tg : CT) (ifs : List CB) (ρ : DEnv) : D → DStore → (Option D → DStore → Prop) → Prop := fun x S' N => wpG G tg x ρ S' fun ρ2 S2 => wpBs G ifs ρ2 S2 fun r S3 => if r = true then wpE G elt ρ2 S3 fun y S4 => N (some y) S4 else N none S3
def forTurn (G : Fns) (t : CT) (b : List CS) (rt : QE) (nx : DEnv → DStore → Prop) : D → DEnv → DStore → (DEnv → DStore → Prop) → Prop := fun x ρ' S' N => wpG G t x ρ' S' fun ρ2 S2 => wpSs G b ρ2 S2 ⟨N, rt, nx, N⟩
def whileTest (G : Fns) (c : CB) : DEnv → DStore → (Bool → DStore → Prop) → Prop := fun ρ S Q => wpB G c ρ S Q
def whileTurn (G : Fns) (b : List CS) (rt : QE) (nx : DEnv → DStore → Prop) : DEnv → DStore → (DEnv → DStore → Prop) → Prop := fun ρ S N => wpSs G b ρ S ⟨N, rt, nx, N⟩
section
variable {G : Fns} {a b c : CE} {r : Option D} {ρ : DEnv} {S : DStore} {Q : QE} {op op' : Operator} {i j : Nat} {K : DEnds}
theorem e_var : wpE G (.var i) (r :: ρ) S Q = ∃ d, (r :: ρ)[i]? = some (some d) ∧ Q d S := by simp only [wpE]
theorem e_con {k : CC} : wpE G (.con k) (r :: ρ) S Q = Q k.d S := by simp only [wpE]
theorem e_glo : wpE G (.glo j) (r :: ρ) S Q = Q (G.gl j) S := by simp only [wpE]
theorem e_bin {m : Bool} : wpE G (.bin op m a b) (r :: ρ) S Q = wpE G a (r :: ρ) S fun x S1 => wpE G b (r :: ρ) S1 fun y S2 => binD op m x y S2 Q := by simp only [wpE]
theorem e_neg : wpE G (.neg a) (r :: ρ) S Q = wpE G a (r :: ρ) S fun x S1 => ∃ i, x = .int i ∧ Q (.int (-i)) S1 := by simp only [wpE]
theorem e_cmp {op : CmpOp} : wpE G (.cmp op a b) (r :: ρ) S Q = wpE G a (r :: ρ) S fun x S1 => wpE G b (r :: ρ) S1 fun y S2 => cmpD op S2 x y fun r => Q (.bl r) S2 := by simp only [wpE]
theorem e_chain {op op' : CmpOp} : wpE G (.chain op op' a b c) (r :: ρ) S Q = wpE G a (r :: ρ) S fun x S1 => wpE G b (r :: ρ) S1 fun y S2 => cmpD op S2 x y fun t => if t = true then wpE G c (r :: ρ) S2 fun z S3 => cmpD op' S3 y z fun r' => Q (.bl r') S3 else Q (.bl false) S2 := by simp only [wpE]
theorem e_and : wpE G (.and_ a b) (r :: ρ) S Q = wpE G a (r :: ρ) S fun x S1 => ∃ c, x = .bl c ∧ if c = true then wpE G b (r :: ρ) S1 Q else Q (.bl false) S1 := by simp only [wpE]
theorem e_or : wpE G (.or_ a b) (r :: ρ) S Q = wpE G a (r :: ρ) S fun x S1 => ∃ c, x = .bl c ∧ if c = true then Q (.bl true) S1 else wpE G b (r :: ρ) S1 Q := by simp only [wpE]
theorem e_not : wpE G (.not_ a) (r :: ρ) S Q = wpE G a (r :: ρ) S fun x S1 => ∃ c, x = .bl c ∧ Q (.bl (!c)) S1 := by simp only [wpE]
theorem e_ite {t : CB} : wpE G (.ite t a b) (r :: ρ) S Q = wpB G t (r :: ρ) S fun c S1 => if c = true then wpE G a (r :: ρ) S1 Q else wpE G b (r :: ρ) S1 Q := by simp only [wpE]
theorem e_tup {es : List CE} : wpE G (.tup es) (r :: ρ) S Q = wpEs G es (r :: ρ) S fun ds S1 => Q (.tup ds) S1 := by simp only [wpE]
theorem e_lst {m : Bool} {es : List CE} : wpE G (.lst m es) (r :: ρ) S Q = wpEs G es (r :: ρ) S fun ds S1 => newL m ds S1 Q := by simp only [wpE]
theorem e_ix : wpE G (.ix a b) (r :: ρ) S Q = wpE G a (r :: ρ) S fun x S1 => wpE G b (r :: ρ) S1 fun y S2 => ixD S2 x y fun d => Q d S2 := by simp only [wpE]
theorem e_sl {m : Bool} {lo hi : CO} : wpE G (.sl m a lo hi) (r :: ρ) S Q = wpE G a (r :: ρ) S fun x S1 => wpO G lo (r :: ρ) S1 fun l S2 => wpO G hi (r :: ρ) S2 fun h S3 => slD m S3 x l h Q := by simp only [wpE]
theorem e_call {es : List CE} : wpE G (.call j es) (r :: ρ) S Q = wpEs G es (r :: ρ) S fun ds S1 => G.fn j ds S1 Q := by simp only [wpE]
theorem e_callK {es kes : List CE} {perm : List Nat} : wpE G (.callK j es kes perm) (r :: ρ) S Q = wpEs G es (r :: ρ) S fun ds S1 => wpEs G kes (r :: ρ) S1 fun ks S2 => G.fn j (ds ++ perm.map fun i => ks.getD i .non) S2 Q := by simp only [wpE]
theorem e_bi {k : BI} {m : Bool} {es : List CE} : wpE G (.bi k m es) (r :: ρ) S Q = wpEs G es (r :: ρ) S fun ds S1 => biD k m ds S1 Q := by simp only [wpE]
theorem e_dnew : wpE G .dnew (r :: ρ) S Q = Q (.ref S.length) (S ++ [.dct []]) := by simp only [wpE]
theorem e_dnew1 {es : List CE} {v : CE} : wpE G (.dnew1 es v) (r :: ρ) S Q = wpEs G es (r :: ρ) (S ++ [.dct []]) fun ys S1 => wpE G v (r :: ρ) S1 fun z S2 => ∃ ks, keysOf ys = some ks ∧ S2[S.length]? = some (.dct []) ∧ Q (.ref S.length) (S2.set S.length (.dct [(ks, z)])) := by simp only [wpE]
theorem f_str {i : Int} : biD .str1 m [.int i] S Q = ∃ j, D.int i = .int j ∧ j.natAbs.log2 < 1920 ∧ Q (.str (toString j)) S := rfl
theorem e_lz {m : Bool} : wpE G (.lz m a b) (r :: ρ) S Q = wpE G a (r :: ρ) S fun x S1 => wpE G b (r :: ρ) S1 fun y S2 => ∃ xs ys, lstOf S2 x = some xs ∧ lstOf S2 y = some ys ∧ (xs.zip ys).length ≤ sizeLine ∧ newL m (zipD xs ys) S2 Q := by simp only [wpE]
theorem e_ktup {es : List CE} : wpE G (.ktup es) (r :: ρ) S Q = wpEs G es (r :: ρ) S fun ds S1 => ∃ ks, keysOf ds = some ks ∧ Q (.key ks) S1 := by simp only [wpE]
theorem e_lrg : wpE G (.lrg m a b) (r :: ρ) S Q = wpE G a (r :: ρ) S fun x S1 => wpE G b (r :: ρ) S1 fun y S2 => ∃ i j, x = .int i ∧ y = .int j ∧ Sm i ∧ Sm j ∧ (j - i).toNat ≤ 1000000 ∧ newL m (rangeD i j) S2 Q := by simp only [wpE]
theorem e_popE : wpE G (.popE a) (r :: ρ) S Q = wpE G a (r :: ρ) S fun x S1 => ∃ n xs y, x = .ref n ∧ S1[n]? = some (.lst (xs ++ [y])) ∧ Q y (S1.set n (.lst xs)) := by simp only [wpE]
theorem e_kix : wpE G (.kix a b) (r :: ρ) S Q = wpE G a (r :: ρ) S fun x S1 => wpE G b (r :: ρ) S1 fun y S2 => ∃ n kvs k v, x = .ref n ∧ dkkOf S2 n = some kvs ∧ keyOf y = some k ∧ valD kvs k = some v ∧ Q v S2 := by simp only [wpE]
theorem e_kget : wpE G (.kget a b c) (r :: ρ) S Q = wpE G a (r :: ρ) S fun x S1 => ∃ n, x = .ref n ∧ KAt S1 n ∧ wpE G b (r :: ρ) S1 fun y S2 => wpE G c (r :: ρ) S2 fun w S3 => ∃ kvs k, dkkOf S3 n = some kvs ∧ keyOf y = some k ∧ Q ((valD kvs k).getD w) S3 := by simp only [wpE]
theorem e_dlit {ks : List Str} {es : List CE} : wpE G (.dlit ks es) (r :: ρ) S Q = wpEs G es (r :: ρ) (S ++ [.dkk []]) fun ds S1 => S1[S.length]? = some (.dkk []) ∧ Q (.ref S.length) (S1.set S.length (.dkk (mergeD [] ((ks.map Sum.inr).zip ds)))) := by simp only [wpE]
theorem e_dcomp {key val : CE} {tg : CT} {it : CI} {own : List Nat} : wpE G (.dcomp key val tg it own) (r :: ρ) S Q = wpI G it (r :: ρ) S fun items I S1 => ∃ W : Nat → List (L2.Key × D) → DStore → Prop, W 0 [] S1 ∧ (∀ i acc S, W i acc S → I S ∧ i ≤ items.length) ∧
      (∀ i x acc S, W i acc S → items[i]? = some x → wpG G tg x (wipeD (r :: ρ) own) S fun ρ2 S2 => wpE G key ρ2 S2 fun y S3 => wpE G val ρ2 S3 fun z S4 => ∃ k, keyOf y = some k ∧ acc.length < sizeLine ∧ W (i + 1) (putD acc k z) S4) ∧
      ∀ acc S, W items.length acc S → Q (.ref S.length) (S ++ [.dkk acc]) := by simp only [wpE]
theorem e_rev : wpE G (.rev a) (r :: ρ) S Q = wpE G a (r :: ρ) S fun x S1 => ∃ xs, x = .tup xs ∧ Q (.tup xs.reverse) S1 := by simp only [wpE]
theorem f_reprE {d : D} : biD .reprE m [d] S Q = ∃ p, purE S d = some p ∧ RepOkE p ∧ Q (.str p.shown) S := rfl
theorem e_dget2 {x : CE} {es : List CE} : wpE G (.dget2 a es x) (r :: ρ) S Q = wpE G a (r :: ρ) S fun d S1 => ∃ n, d = .ref n ∧ DAt S1 n ∧ wpEs G es (r :: ρ) S1 fun ys S2 => wpE G x (r :: ρ) S2 fun z S3 => ∃ kvs ks, dctOf S3 n = some kvs ∧ keysOf ys = some ks ∧ Q ((valD kvs ks).getD z) S3 := by simp only [wpE]
theorem e_isi {t : TyB} : wpE G (.isi t a) (r :: ρ) S Q = wpE G a (r :: ρ) S fun x S1 => isiP t x S1 Q := by simp only [wpE]
theorem e_tix {e : CE} : wpE G (.tindex i e) (r :: ρ) S Q = ∃ ys : List Str, G.gl i = .tup (ys.map D.str) ∧ wpE G e (r :: ρ) S fun y S2 => ∃ z j, y = .str z ∧ ys[j]? = some z ∧ (∀ m, m < j → ys[m]? ≠ some z) ∧ Q (.int (j : Nat)) S2 := by simp only [wpE]
theorem e_lc {m : Bool} {tg : CT} {it : CI} {ifs : List CB} {own : List Nat} : wpE G (.lc m a tg it ifs own) (r :: ρ) S Q = wpI G it (r :: ρ) S fun items I S1 => wpGather items I S1 (lcTurn G a tg ifs (wipeD (r :: ρ) own)) fun acc S' => newL m acc S' Q := by simp only [wpE]; rfl
theorem es_nil {Q : List D → DStore → Prop} : wpEs G [] (r :: ρ) S Q = Q [] S := by simp only [wpEs]
theorem es_cons {es : List CE} {Q : List D → DStore → Prop} : wpEs G (a :: es) (r :: ρ) S Q = wpE G a (r :: ρ) S fun d S1 => wpEs G es (r :: ρ) S1 fun ds S2 => Q (d :: ds) S2 := by simp only [wpEs]
theorem o_no {Q : Option Int → DStore → Prop} : wpO G .no (r :: ρ) S Q = Q none S := by simp only [wpO]
theorem o_yes {Q : Option Int → DStore → Prop} : wpO G (.yes a) (r :: ρ) S Q = wpE G a (r :: ρ) S fun x S1 => ∃ i, x = .int i ∧ Q (some i) S1 := by simp only [wpO]
section
variable {x y : CB} {Q : Bool → DStore → Prop}
theorem b_and : wpB G (.cand x y) (r :: ρ) S Q = wpB G x (r :: ρ) S fun c S1 => if c = true then wpB G y (r :: ρ) S1 Q else Q false S1 := by simp only [wpB]
theorem b_or : wpB G (.cor x y) (r :: ρ) S Q = wpB G x (r :: ρ) S fun c S1 => if c = true then Q true S1 else wpB G y (r :: ρ) S1 Q := by simp only [wpB]
theorem b_not : wpB G (.cnot x) (r :: ρ) S Q = wpB G x (r :: ρ) S fun c S1 => Q (!c) S1 := by simp only [wpB]
theorem b_cmp {op : CmpOp} : wpB G (.ccmp op a b) (r :: ρ) S Q = wpE G a (r :: ρ) S fun x S1 => wpE G b (r :: ρ) S1 fun y S2 => cmpD op S2 x y fun t => Q t S2 := by simp only [wpB]
theorem b_cnil : wpB G (.cnil a b) (r :: ρ) S Q = wpE G a (r :: ρ) S fun x S1 => wpE G b (r :: ρ) S1 fun y S2 => y = .lst [] ∧ ∃ xs, lstOf S2 x = some xs ∧ Q (!xs.isEmpty) S2 := by simp only [wpB]
theorem b_chain {op op' : CmpOp} : wpB G (.cchain op op' a b c) (r :: ρ) S Q = wpE G a (r :: ρ) S fun x S1 => wpE G b (r :: ρ) S1 fun y S2 => cmpD op S2 x y fun t => if t = true then wpE G c (r :: ρ) S2 fun z S3 => cmpD op' S3 y z fun r' => Q r' S3 else Q false S2 := by simp only [wpB]
theorem b_val : wpB G (.cval a) (r :: ρ) S Q = wpE G a (r :: ρ) S fun x S1 => truD S1 x fun t => Q t S1 := by simp only [wpB]
theorem bs_nil : wpBs G [] (r :: ρ) S Q = Q true S := by simp only [wpBs]
theorem bs_cons {bs : List CB} : wpBs G (x :: bs) (r :: ρ) S Q = wpB G x (r :: ρ) S fun t S1 => if t = true then wpBs G bs (r :: ρ) S1 Q else Q false S1 := by simp only [wpBs]
end
section
variable {d : D} {ts : List CT} {t : CT} {Q : DEnv → DStore → Prop}
theorem g_name : wpG G (.name i) d (r :: ρ) S Q = Q ((r :: ρ).set i (some d)) S := by simp only [wpG]
theorem g_tup : wpG G (.tup ts) d (r :: ρ) S Q = unpD S d fun xs => xs.length = ts.length ∧ wpGs G ts xs (r :: ρ) S Q := by simp only [wpG]
theorem u_tup {xs : List D} {k : List D → Prop} : unpD S (.tup xs) k = k xs := rfl
theorem u_lst {xs : List D} {k : List D → Prop} : unpD S (.lst xs) k = k xs := by simp [unpD, lstOf]
theorem g_sub : wpG G (.sub a b) d (r :: ρ) S Q = wpE G a (r :: ρ) S fun x S1 => wpE G b (r :: ρ) S1 fun y S2 => ∃ n xs k j, x = .ref n ∧ y = .int k ∧ S2[n]? = some (.lst xs) ∧ ixN xs.length k = some j ∧ Q (r :: ρ) (S2.set n (.lst (xs.set j d))) := by simp only [wpG]
theorem g_ksub : wpG G (.ksub a b) d (r :: ρ) S Q = wpE G a (r :: ρ) S fun x S1 => wpE G b (r :: ρ) S1 fun y S2 => ∃ n kvs ks, x = .ref n ∧ y = .key ks ∧ S2[n]? = some (.dct kvs) ∧ kvs.length < sizeLine ∧ Q (r :: ρ) (S2.set n (.dct (putD kvs ks d))) := by simp only [wpG]
theorem g_dsub {es : List CE} : wpG G (.dsub a es) d (r :: ρ) S Q = wpE G a (r :: ρ) S fun x S1 => wpEs G es (r :: ρ) S1 fun ys S2 => ∃ n kvs ks, x = .ref n ∧ S2[n]? = some (.dct kvs) ∧ keysOf ys = some ks ∧ kvs.length < sizeLine ∧ Q (r :: ρ) (S2.set n (.dct (putD kvs ks d))) := by simp only [wpG]
theorem gs_nil {ds : List D} : wpGs G [] ds (r :: ρ) S Q = Q (r :: ρ) S := by simp only [wpGs]
theorem gs_cons {ds : List D} : wpGs G (t :: ts) (d :: ds) (r :: ρ) S Q = wpG G t d (r :: ρ) S fun ρ1 S1 => wpGs G ts ds ρ1 S1 Q := by
  simp only [wpGs, List.cons.injEq]
  apply propext
  constructor
  · rintro ⟨_, _, ⟨rfl, rfl⟩, h⟩; exact h
  · intro h; exact ⟨_, _, ⟨rfl, rfl⟩, h⟩
end
section
variable {R : RI}
theorem i_keys : wpI G (.keys a) (r :: ρ) S R = wpE G a (r :: ρ) S fun x S1 => ∃ n kvs, x = .ref n ∧ S1[n]? = some (.dlk kvs) ∧ R (kvs.map fun p => D.tup (p.1.map keyD)) (fun _ => True) S1 := by simp only [wpI]
theorem i_kkeys : wpI G (.kkeys a) (r :: ρ) S R = wpE G a (r :: ρ) S fun x S1 => ∃ n kvs, x = .ref n ∧ S1[n]? = some (.dkl kvs) ∧ R (kvs.map fun p => keyD p.1) (fun _ => True) S1 := by simp only [wpI]
theorem i_kitems : wpI G (.kitems a) (r :: ρ) S R = wpE G a (r :: ρ) S fun x S1 => ∃ n kvs, x = .ref n ∧ S1[n]? = some (.dkl kvs) ∧ R (kvs.map fun p => D.tup [keyD p.1, p.2]) (fun _ => True) S1 := by simp only [wpI]
theorem i_items : wpI G (.items a) (r :: ρ) S R = wpE G a (r :: ρ) S fun x S1 => ∃ n kvs, x = .ref n ∧ S1[n]? = some (.dlk kvs) ∧ R (kvs.map fun p => D.tup [D.tup (p.1.map keyD), p.2]) (fun _ => True) S1 := by simp only [wpI]
theorem i_seq : wpI G (.seq a) (r :: ρ) S R = wpE G a (r :: ρ) S fun x S1 => itD S1 x R := by simp only [wpI]
theorem i_range1 : wpI G (.range1 a) (r :: ρ) S R = wpE G a (r :: ρ) S fun x S1 => ∃ j, x = .int j ∧ Sm j ∧ R (rangeD 0 j) (fun _ => True) S1 := by simp only [wpI]
theorem i_range3 : wpI G (.range3 a b c) (r :: ρ) S R = wpE G a (r :: ρ) S fun x S1 => wpE G b (r :: ρ) S1 fun y S2 => wpE G c (r :: ρ) S2 fun z S3 => ∃ i j k n, x = .int i ∧ y = .int j ∧ z = .int k ∧ RgC i j k n ∧ R (range3D i k n) (fun _ => True) S3 := by simp only [wpI]
theorem i_enum : wpI G (.enum a) (r :: ρ) S R = wpE G a (r :: ρ) S fun x S1 => enumP S1 x R := by simp only [wpI]
theorem i_zip3 {c : CE} : wpI G (.zip3 a b c) (r :: ρ) S R = wpE G a (r :: ρ) S fun x S1 => wpE G b (r :: ρ) S1 fun y S2 => wpE G c (r :: ρ) S2 fun z S3 => zip3P S3 x y z R := by simp only [wpI]
theorem i_zip : wpI G (.zip2 a b) (r :: ρ) S R = wpE G a (r :: ρ) S fun x S1 => wpE G b (r :: ρ) S1 fun y S2 => zipP S2 x y R := by simp only [wpI]
theorem i_range2 : wpI G (.range2 a b) (r :: ρ) S R = wpE G a (r :: ρ) S fun x S1 => wpE G b (r :: ρ) S1 fun y S2 => ∃ i j, x = .int i ∧ y = .int j ∧ Sm i ∧ Sm j ∧ R (rangeD i j) (fun _ => True) S2 := by simp only [wpI]
end
section
variable {e : CE} {t : CT} {ss s1 s2 : List CS} {s : CS} {k : Nat} {cb : CB} {it : CI} {nx : DEnv → DStore → Prop} {rt : QE} {bk ct : DEnv → DStore → Prop}
theorem s_nil : wpSs G [] (r :: ρ) S ⟨nx, rt, bk, ct⟩ = nx (r :: ρ) S := by simp only [wpSs]
theorem s_cons : wpSs G (s :: ss) (r :: ρ) S ⟨nx, rt, bk, ct⟩ = wpS G s (r :: ρ) S ⟨fun ρ1 S1 => wpSs G ss ρ1 S1 ⟨nx, rt, bk, ct⟩, rt, bk, ct⟩ := by simp only [wpSs]
theorem s_expr : wpS G (.expr e) (r :: ρ) S ⟨nx, rt, bk, ct⟩ = wpE G e (r :: ρ) S fun _ S1 => nx (r :: ρ) S1 := by simp only [wpS]
theorem s_ret : wpS G (.ret e) (r :: ρ) S ⟨nx, rt, bk, ct⟩ = wpE G e (r :: ρ) S rt := by simp only [wpS]
theorem s_retN : wpS G .retN (r :: ρ) S ⟨nx, rt, bk, ct⟩ = rt .non S := by simp only [wpS]
theorem s_pass : wpS G .pass (r :: ρ) S ⟨nx, rt, bk, ct⟩ = nx (r :: ρ) S := by simp only [wpS]
theorem s_brk : wpS G .brk (r :: ρ) S ⟨nx, rt, bk, ct⟩ = bk (r :: ρ) S := by simp only [wpS]
theorem s_cont : wpS G .cont (r :: ρ) S ⟨nx, rt, bk, ct⟩ = ct (r :: ρ) S := by simp only [wpS]
theorem s_asg : wpS G (.asg t e) (r :: ρ) S ⟨nx, rt, bk, ct⟩ = wpE G e (r :: ρ) S fun d S1 => wpG G t d (r :: ρ) S1 nx := by simp only [wpS]
theorem s_par2 : wpS G (.par2 i j a b) (r :: ρ) S ⟨nx, rt, bk, ct⟩ = wpE G a (r :: ρ) S fun x S1 => wpE G b (r :: ρ) S1 fun y S2 => nx (((r :: ρ).set i (some x)).set j (some y)) S2 := by simp only [wpS]
theorem s_par3 : wpS G (.par3 i j k a b c) (r :: ρ) S ⟨nx, rt, bk, ct⟩ = wpE G a (r :: ρ) S fun x S1 => wpE G b (r :: ρ) S1 fun y S2 => wpE G c (r :: ρ) S2 fun z S3 => nx ((((r :: ρ).set i (some x)).set j (some y)).set k (some z)) S3 := by simp only [wpS]
theorem s_setLc : wpS G (.setLc i e) (r :: ρ) S ⟨nx, rt, bk, ct⟩ = wpE G e (r :: ρ) S fun d S1 => nx ((r :: ρ).set i (some d)) S1 := by rw [wpS]
theorem s_augA : wpS G (.aug i .Add e) (r :: ρ) S ⟨nx, rt, bk, ct⟩ = ∃ x, (r :: ρ)[i]? = some (some x) ∧ wpE G e (r :: ρ) S fun y S1 => i2 x y fun a b => nx ((r :: ρ).set i (some (.int (a + b)))) S1 := by simp only [wpS]
theorem s_augS : wpS G (.aug i .Sub e) (r :: ρ) S ⟨nx, rt, bk, ct⟩ = ∃ x, (r :: ρ)[i]? = some (some x) ∧ wpE G e (r :: ρ) S fun y S1 => i2 x y fun a b => nx ((r :: ρ).set i (some (.int (a - b)))) S1 := by simp only [wpS]
theorem s_append : wpS G (.append a e) (r :: ρ) S ⟨nx, rt, bk, ct⟩ = wpE G a (r :: ρ) S fun x S1 => ∃ n, x = .ref n ∧ LAt S1 n ∧ wpE G e (r :: ρ) S1 fun y S2 => ∃ xs, S2[n]? = some (.lst xs) ∧ xs.length < sizeLine ∧ nx (r :: ρ) (S2.set n (.lst (xs ++ [y]))) := by simp only [wpS]
theorem s_extend {a e : CE} : wpS G (.extend a e) (r :: ρ) S ⟨nx, rt, bk, ct⟩ = wpE G a (r :: ρ) S fun x S1 => ∃ n, x = .ref n ∧ LAt S1 n ∧ wpE G e (r :: ρ) S1 fun y S2 => ∃ xs zs, S2[n]? = some (.lst xs) ∧ lstOf S2 y = some zs ∧ xs.length + zs.length ≤ sizeLine ∧ nx (r :: ρ) (S2.set n (.lst (xs ++ zs))) := by rw [wpS]
theorem s_popS {a : CE} : wpS G (.popS a) (r :: ρ) S ⟨nx, rt, bk, ct⟩ = wpE G a (r :: ρ) S fun x S1 => ∃ n xs y, x = .ref n ∧ S1[n]? = some (.lst (xs ++ [y])) ∧ nx (r :: ρ) (S1.set n (.lst xs)) := by rw [wpS]
theorem s_if : wpS G (.if_ cb s1 s2) (r :: ρ) S ⟨nx, rt, bk, ct⟩ = wpB G cb (r :: ρ) S fun t S1 => if t = true then wpSs G s1 (r :: ρ) S1 ⟨nx, rt, bk, ct⟩ else wpSs G s2 (r :: ρ) S1 ⟨nx, rt, bk, ct⟩ := by simp only [wpS]
theorem s_while : wpS G (.while_ cb s1) (r :: ρ) S ⟨nx, rt, bk, ct⟩ = wpLoop (r :: ρ) S (whileTest G cb) (whileTurn G s1 rt nx) nx := by simp only [wpS]; rfl
theorem s_lockK {st : CS} : wpS G (.lockK st) (r :: ρ) S ⟨nx, rt, bk, ct⟩ = ∃ n kvs, S[n]? = some (.dkk kvs) ∧ wpS G st (r :: ρ) (S.set n (.dkl kvs)) ⟨fun ρ' S' => nx ρ' (S'.set n (.dkk kvs)), fun d S' => rt d (S'.set n (.dkk kvs)), fun ρ' S' => bk ρ' (S'.set n (.dkk kvs)), fun ρ' S' => ct ρ' (S'.set n (.dkk kvs))⟩ := by rw [wpS]
theorem s_lock {st : CS} : wpS G (.lock st) (r :: ρ) S ⟨nx, rt, bk, ct⟩ = ∃ n kvs, S[n]? = some (.dct kvs) ∧ wpS G st (r :: ρ) (S.set n (.dlk kvs)) ⟨fun ρ' S' => nx ρ' (S'.set n (.dct kvs)), fun d S' => rt d (S'.set n (.dct kvs)), fun ρ' S' => bk ρ' (S'.set n (.dct kvs)), fun ρ' S' => ct ρ' (S'.set n (.dct kvs))⟩ := by rw [wpS]
theorem s_for : wpS G (.for_ t it s1) (r :: ρ) S ⟨nx, rt, bk, ct⟩ = wpI G it (r :: ρ) S fun items I S1 => wpWalk items I (r :: ρ) S1 (forTurn G t s1 rt nx) nx := by simp only [wpS]; rfl
end
end
/-! ### operations on written data -/
section
variable {S : DStore} {Q : QE} {m : Bool} {x y : Int} {QB : Bool → Prop}
theorem o_add : binD .Add m (.int x) (.int y) S Q = Q (.int (x + y)) S := rfl
theorem o_addT {a b : List D} : binD .Add m (.tup a) (.tup b) S Q = (a.length + b.length ≤ sizeLine ∧ Q (.tup (a ++ b)) S) := rfl
theorem o_addL {a b : List D} : binD .Add m (.lst a) (.lst b) S Q = (a.length + b.length ≤ sizeLine ∧ newL m (a ++ b) S Q) := by
  simp [binD, addD, lstOf]
theorem o_sub : binD .Sub m (.int x) (.int y) S Q = Q (.int (x - y)) S := rfl
theorem o_mul : binD .Mult m (.int x) (.int y) S Q = (MulOk x y ∧ Q (.int (x * y)) S) := rfl
theorem o_mulL {a : List D} : binD .Mult m (.lst a) (.int y) S Q = (-(2 ^ 63) ≤ y ∧ y < 2 ^ 63 ∧ a.length * y.toNat ≤ sizeLine ∧ newL m (List.replicate y.toNat a).flatten S Q) := by
  simp [binD, mulD, lstOf]
theorem o_mulT {a : List D} : binD .Mult m (.tup a) (.int y) S Q = (a ≠ [] ∧ 0 ≤ y ∧ y ≤ 1000 ∧ a.length ≤ 1000 ∧ Q (.tup (List.replicate y.toNat a).flatten) S) := rfl
theorem o_fdiv : binD .FloorDiv m (.int x) (.int y) S Q = (DivOk y ∧ Q (.int (x.fdiv y)) S) := rfl
theorem o_mod : binD .Mod m (.int x) (.int y) S Q = (y ≠ 0 ∧ Q (.int (x.fmod y)) S) := rfl
theorem o_pow : binD .Pow m (.int x) (.int y) S Q = (CPow x y ∧ Q (.int (x ^ y.toNat)) S) := rfl
theorem o_shl : binD .LShift m (.int x) (.int y) S Q = (CShl x y ∧ Q (.int (x * 2 ^ y.toNat)) S) := rfl
theorem o_shr : binD .RShift m (.int x) (.int y) S Q = (0 ≤ y ∧ Q (.int (x / 2 ^ y.toNat)) S) := rfl
theorem q_lt : cmpD .Lt S (.int x) (.int y) QB = QB (decide (x < y)) := rfl
theorem q_le : cmpD .LtE S (.int x) (.int y) QB = QB (decide (x ≤ y)) := rfl
theorem q_gt : cmpD .Gt S (.int x) (.int y) QB = QB (decide (y < x)) := rfl
theorem q_ge : cmpD .GtE S (.int x) (.int y) QB = QB (decide (y ≤ x)) := rfl
theorem q_eqI : cmpD .Eq S (.int x) (.int y) QB = QB (decide (x = y)) := rfl
theorem q_neI : cmpD .NotEq S (.int x) (.int y) QB = QB (!decide (x = y)) := rfl
theorem q_eqS {x y : Str} : cmpD .Eq S (.str x) (.str y) QB = QB (decide (x = y)) := rfl
theorem q_neS {x y : Str} : cmpD .NotEq S (.str x) (.str y) QB = QB (!decide (x = y)) := rfl
theorem q_eqB {x y : Bool} : cmpD .Eq S (.bl x) (.bl y) QB = QB (decide (x = y)) := rfl
theorem q_neB {x y : Bool} : cmpD .NotEq S (.bl x) (.bl y) QB = QB (!decide (x = y)) := rfl
theorem q_isN {d : D} : cmpD .Is S d .non QB = QB (isNon d) := rfl
theorem q_notN {d : D} : cmpD .IsNot S d .non QB = QB (!isNon d) := rfl
theorem q_isB {x y : Bool} : cmpD .Is S (.bl x) (.bl y) QB = QB (decide (x = y)) := by simp [cmpD, isD]
theorem q_notB {x y : Bool} : cmpD .IsNot S (.bl x) (.bl y) QB = QB (!decide (x = y)) := by simp [cmpD, isD]
theorem t_bl {b : Bool} : truD S (.bl b) QB = QB b := rfl
theorem t_int {i : Int} : truD S (.int i) QB = QB (i != 0) := rfl
theorem x_tup {xs : List D} {QD : D → Prop} : ixD S (.tup xs) (.int x) QD = ∃ v, atI xs x = some v ∧ QD v := by simp [ixD, seqOf]
theorem x_lst {xs : List D} {QD : D → Prop} : ixD S (.lst xs) (.int x) QD = ∃ v, atI xs x = some v ∧ QD v := by simp [ixD, seqOf, lstOf]
theorem x_scr {xs : List D} {QD : D → Prop} : ixD S (.scr xs) (.int x) QD = ∃ v, atI xs x = some v ∧ QD v := by simp [ixD, seqOf]
def cellL : Option Cell → Option (List D)
  | some (.lst xs) => some xs
  | _ => none
theorem lstOf_ref {n : Nat} : lstOf S (.ref n) = cellL S[n]? := by
  simp only [lstOf]
  cases S[n]? with
  | none => rfl
  | some c => cases c <;> rfl
theorem x_ref {n : Nat} {QD : D → Prop} : ixD S (.ref n) (.int x) QD = ∃ xs, cellL S[n]? = some xs ∧ ∃ v, atI xs x = some v ∧ QD v := by simp [ixD, seqOf, lstOf_ref]
theorem x_key {n : Nat} {ks : List L2.Key} {QD : D → Prop} : ixD S (.ref n) (.key ks) QD = ∃ kvs v, dctOf S n = some kvs ∧ valD kvs ks = some v ∧ QD v := by
  unfold ixD
  simp only [D.ref.injEq, eq_iff_iff]
  constructor
  · rintro ⟨n', kvs, v, rfl, h⟩; exact ⟨kvs, v, h⟩
  · rintro ⟨kvs, v, h⟩; exact ⟨n, kvs, v, rfl, h⟩
theorem x_dct {n : Nat} {ys : List D} {QD : D → Prop} : ixD S (.ref n) (.tup ys) QD = ∃ kvs ks v, dctOf S n = some kvs ∧ keysOf ys = some ks ∧ valD kvs ks = some v ∧ QD v := by
  simp only [ixD]
  apply propext
  constructor
  · rintro ⟨n', kvs, ks, v, e, h⟩
    cases e; exact ⟨kvs, ks, v, h⟩
  · rintro ⟨kvs, ks, v, h⟩
    exact ⟨n, kvs, ks, v, rfl, h⟩
theorem c_some {xs : List D} : cellL (some (.lst xs)) = some xs := rfl
theorem n_f {ds : List D} : newL false ds S Q = Q (.lst ds) S := rfl
theorem n_t {ds : List D} : newL true ds S Q = Q (.ref S.length) (S ++ [.lst ds]) := rfl
theorem f_lenT {xs : List D} : biD .len m [.tup xs] S Q = Q (.int xs.length) S := by simp [biD, seqOf]
theorem f_lenL {xs : List D} : biD .len m [.lst xs] S Q = Q (.int xs.length) S := by simp [biD, seqOf, lstOf]
theorem f_lenC {xs : List D} : biD .len m [.scr xs] S Q = Q (.int xs.length) S := by simp [biD, seqOf]
theorem f_lenR {n : Nat} : biD .len m [.ref n] S Q = ∃ xs, cellL S[n]? = some xs ∧ Q (.int xs.length) S := by simp [biD, seqOf, lstOf_ref]
theorem f_abs : biD .abs m [.int x] S Q = Q (.int (if x < 0 then -x else x)) S := rfl
theorem f_min : biD .min2 m [.int x, .int y] S Q = Q (.int (if y < x then y else x)) S := rfl
theorem f_max : biD .max2 m [.int x, .int y] S Q = Q (.int (if y > x then y else x)) S := rfl
theorem f_min3 {z : Int} : biD .min3 m [.int x, .int y, .int z] S Q = Q (.int (if z < (if y < x then y else x) then z else if y < x then y else x)) S := rfl
theorem f_max3 {z : Int} : biD .max3 m [.int x, .int y, .int z] S Q = Q (.int (if z > (if y > x then y else x) then z else if y > x then y else x)) S := rfl
theorem l_lst {xs : List D} : lstOf S (.lst xs) = some xs := rfl
theorem f_intI : biD .int1 m [.int x] S Q = Q (.int x) S := rfl
theorem f_intB {b : Bool} : biD .int1 m [.bl b] S Q = Q (.int (if b then 1 else 0)) S := rfl
theorem f_tupT {xs : List D} : biD .tuple1 m [.tup xs] S Q = Q (.tup xs) S := rfl
theorem f_tupL {xs : List D} : biD .tuple1 m [.lst xs] S Q = Q (.tup xs) S := by simp [biD, lstOf]
theorem f_tupR {n : Nat} : biD .tuple1 m [.ref n] S Q = ∃ xs, cellL S[n]? = some xs ∧ Q (.tup xs) S := by simp [biD, lstOf_ref]
theorem f_lstT {xs : List D} : biD .list1 m [.tup xs] S Q = newL m xs S Q := by simp [biD, seqOf]
theorem f_lstL {xs : List D} : biD .list1 m [.lst xs] S Q = newL m xs S Q := by simp [biD, seqOf, lstOf]
theorem f_allB {bs : List Bool} : biD .all1 m [.lst (bs.map D.bl)] S Q = Q (.bl (bs.all id)) S := by
  apply propext
  constructor
  · rintro ⟨xs, cs, e1, e2, q⟩
    cases e1
    rw [mapM_bl] at e2
    cases e2
    exact q
  · intro q; exact ⟨_, _, rfl, mapM_bl bs, q⟩
theorem f_anyB {bs : List Bool} : biD .any1 m [.lst (bs.map D.bl)] S Q = Q (.bl (bs.any id)) S := by
  apply propext
  constructor
  · rintro ⟨xs, cs, e1, e2, q⟩
    cases e1
    rw [mapM_bl] at e2
    cases e2
    exact q
  · intro q; exact ⟨_, _, rfl, mapM_bl bs, q⟩
theorem f_repr {d : D} : biD .repr1 m [d] S Q = ∃ p, purS S d = some p ∧ RepOk p ∧ Q (.str p.shown) S := rfl
theorem y_int {t : TyB} : isiP t (.int x) S Q = Q (.bl (isiD t (.int x))) S := rfl
theorem y_bl {t : TyB} {b : Bool} : isiP t (.bl b) S Q = Q (.bl (isiD t (.bl b))) S := rfl
theorem y_str {t : TyB} {b : Str} : isiP t (.str b) S Q = Q (.bl (isiD t (.str b))) S := rfl
theorem y_non {t : TyB} : isiP t .non S Q = Q (.bl (isiD t .non)) S := rfl
theorem y_tup {t : TyB} {b : List D} : isiP t (.tup b) S Q = Q (.bl (isiD t (.tup b))) S := rfl
theorem y_key {t : TyB} {ks : List L2.Key} : isiP t (.key ks) S Q = Q (.bl (isiD t (.key ks))) S := rfl
theorem y_ref {t : TyB} {n : Nat} : isiP t (.ref n) S Q = ∃ c, S[n]? = some c ∧ match c with
    | .dlk _ => False
    | .dkl _ => False
    | c => Q (.bl (isiC t c)) S := rfl
theorem y_lst {t : TyB} {b : List D} : isiP t (.lst b) S Q = Q (.bl (isiD t (.lst b))) S := rfl
theorem z_tup {xs ys : List D} {R : RI} : zipP S (.tup xs) (.tup ys) R = R (zipD xs ys) (fun _ => True) S := rfl
theorem z_lst {xs ys : List D} {R : RI} : zipP S (.lst xs) (.lst ys) R = R (zipD xs ys) (fun _ => True) S := by simp [zipP, tlOf, lstOf]
theorem z_tl {xs ys : List D} {R : RI} : zipP S (.tup xs) (.lst ys) R = R (zipD xs ys) (fun _ => True) S := by simp [zipP, tlOf, lstOf]
theorem z_lt {xs ys : List D} {R : RI} : zipP S (.lst xs) (.tup ys) R = R (zipD xs ys) (fun _ => True) S := by simp [zipP, tlOf, lstOf]
theorem z_enumT {xs : List D} {R : RI} : enumP S (.tup xs) R = R (enumD xs) (fun _ => True) S := rfl
theorem z_enum {xs : List D} {R : RI} : enumP S (.lst xs) R = R (enumD xs) (fun _ => True) S := by simp [enumP, lstOf]
theorem t_tup {xs : List D} {R : RI} : itD S (.tup xs) R = R xs (fun _ => True) S := rfl
theorem t_lst {xs : List D} {R : RI} : itD S (.lst xs) R = R xs (fun _ => True) S := rfl
theorem a_0 {α : Type} {a : α} {l : List α} : atI (a :: l) 0 = some a := by simp [atI, ixN]
theorem a_1 {α : Type} {a b : α} {l : List α} : atI (a :: b :: l) 1 = some b := atI_nat' (by decide) rfl
theorem a_2 {α : Type} {a b c : α} {l : List α} : atI (a :: b :: c :: l) 2 = some c := atI_nat' (by decide) rfl
theorem a_3 {α : Type} {a b c d : α} {l : List α} : atI (a :: b :: c :: d :: l) 3 = some d := atI_nat' (by decide) rfl
theorem a_4 {α : Type} {a b c d e : α} {l : List α} : atI (a :: b :: c :: d :: e :: l) 4 = some e := atI_nat' (by decide) rfl
theorem a_5 {α : Type} {a b c d e f : α} {l : List α} : atI (a :: b :: c :: d :: e :: f :: l) 5 = some f := atI_nat' (by decide) rfl
theorem a_6 {α : Type} {a b c d e f g : α} {l : List α} : atI (a :: b :: c :: d :: e :: f :: g :: l) 6 = some g := atI_nat' (by decide) rfl
theorem ex_some {α : Type} {a : α} {P : α → Prop} : (∃ v, some a = some v ∧ P v) = P a := by simp
theorem ex_env {a : D} {P : D → Prop} : (∃ v, some (some a) = some (some v) ∧ P v) = P a := by simp
theorem ex_int {i : Int} {P : Int → Prop} : (∃ j, D.int i = D.int j ∧ P j) = P i := by simp
theorem ex_bl {i : Bool} {P : Bool → Prop} : (∃ j, D.bl i = D.bl j ∧ P j) = P i := by simp
theorem ex_ref {i : Nat} {P : Nat → Prop} : (∃ j, D.ref i = D.ref j ∧ P j) = P i := by simp
theorem ex_tup {xs : List D} {P : List D → Prop} : (∃ ys, D.tup xs = D.tup ys ∧ P ys) = P xs := by simp
theorem ex_int2 {i j : Int} {P : Int → Int → Prop} : (∃ a b, D.int i = D.int a ∧ D.int j = D.int b ∧ P a b) = P i j := by simp
theorem ex_sub {n : Nat} {x : Int} {A : Nat → List D → Prop} {B : List D → Int → Nat → Prop} {P : Nat → List D → Int → Nat → Prop} : (∃ n' xs k j, D.ref n = D.ref n' ∧ D.int x = D.int k ∧ A n' xs ∧ B xs k j ∧ P n' xs k j) = ∃ xs, A n xs ∧ ∃ j, B xs x j ∧ P n xs x j := by
  apply propext
  constructor
  · rintro ⟨_, xs, _, j, e1, e2, h1, h2, h3⟩
    cases e1; cases e2
    exact ⟨xs, h1, j, h2, h3⟩
  · rintro ⟨xs, h1, j, h2, h3⟩
    exact ⟨n, xs, x, j, rfl, rfl, h1, h2, h3⟩
theorem ex_cell {L : List D} {P : List D → Prop} : (∃ xs, some (Cell.lst L) = some (Cell.lst xs) ∧ P xs) = P L := by simp
theorem ix_30 : ixN 3 0 = some 0 := rfl
theorem ix_31 : ixN 3 1 = some 1 := rfl
theorem ix_32 : ixN 3 2 = some 2 := rfl
theorem ix_n {n : Nat} {k : Int} (h0 : 0 ≤ k) (h1 : k < (n : Int)) : ixN n k = some k.toNat := by
  unfold ixN
  rw [if_pos h0, if_pos h1]
end
end DL

local macro_rules | `(tactic| simp_arith only [$xs,*]) => `(tactic| simp only [DL.e_var, DL.e_con, DL.e_glo, DL.e_bin, DL.e_neg, DL.e_cmp, DL.e_chain, DL.e_and, DL.e_or, DL.e_not, DL.e_ite, DL.e_tup, DL.e_lst, DL.e_ix, DL.e_sl, DL.e_call, DL.e_callK, DL.e_bi, DL.e_isi, DL.e_dnew, DL.e_dget2, DL.e_rev, DL.e_ktup, DL.e_lrg, DL.e_popE, DL.e_kix, DL.e_kget, DL.e_dlit, DL.b_cnil, DL.i_zip3, DL.e_tix, DL.e_lc, DL.es_nil, DL.es_cons, DL.o_no, DL.o_yes, DL.b_and, DL.b_or, DL.b_not, DL.b_cmp, DL.b_chain, DL.b_val, DL.bs_nil, DL.bs_cons, DL.g_name, DL.g_tup, DL.u_tup, DL.u_lst, DL.g_sub, DL.g_dsub, DL.g_ksub, DL.gs_nil, DL.gs_cons, DL.i_seq, DL.i_range1, DL.i_range2, DL.i_range3, DL.i_enum, DL.i_zip, DL.i_keys, DL.i_items, DL.i_kkeys, DL.i_kitems, DL.s_nil, DL.s_cons, DL.s_expr, DL.s_ret, DL.s_retN, DL.s_pass, DL.s_brk, DL.s_cont, DL.s_asg, DL.s_par2, DL.s_par3, DL.s_setLc, DL.s_augA, DL.s_augS, DL.s_append, DL.s_extend, DL.s_popS, DL.s_if, DL.s_while, DL.s_for, DL.o_add, DL.o_addT, DL.o_addL, DL.o_sub, DL.o_mul, DL.o_mulL, DL.o_mulT, DL.o_fdiv, DL.o_mod, DL.o_pow, DL.o_shl, DL.o_shr, DL.q_lt, DL.q_le, DL.q_gt, DL.q_ge, DL.q_eqI, DL.q_neI, DL.q_eqS, DL.q_neS, DL.q_eqB, DL.q_neB, DL.q_isN, DL.q_notN, DL.q_isB, DL.q_notB, DL.t_bl, DL.t_int, DL.x_tup, DL.x_lst, DL.x_scr, DL.x_ref, DL.x_dct, DL.x_key, DL.c_some, DL.n_f, DL.n_t, DL.f_lenT, DL.f_lenL, DL.f_lenC, DL.f_lenR, DL.f_abs, DL.f_min, DL.f_max, DL.f_min3, DL.f_max3, DL.l_lst, DL.f_intI, DL.f_intB, DL.f_tupT, DL.f_tupL, DL.f_tupR, DL.f_lstT, DL.f_lstL, DL.y_int, DL.y_bl, DL.y_str, DL.y_non, DL.y_tup, DL.y_lst, DL.y_key, DL.y_ref, DL.z_tup, DL.z_lst, DL.z_tl, DL.z_lt, DL.z_enum, DL.z_enumT, DL.isiD, DL.isiC, DL.t_tup, DL.t_lst, DL.a_0, DL.a_1, DL.a_2, DL.a_3, DL.a_4, DL.a_5, DL.a_6, DL.ex_some, DL.ex_env, DL.ex_int, DL.ex_bl, DL.ex_ref, DL.ex_tup, DL.ex_int2, DL.ex_sub, DL.ex_cell, DL.ix_30, DL.ix_31, DL.ix_32, DL.CC.d, DL.startD, DL.wipeD, DL.i2, List.map_cons, List.map_nil, List.length_cons, List.length_nil, List.replicate, List.cons_append, List.nil_append, List.getElem?_cons_zero, List.getElem?_cons_succ, List.set_cons_zero, List.set_cons_succ, Nat.zero_add, Nat.reduceAdd, Nat.reduceSub, decide_eq_true_eq, Bool.not_eq_true', decide_eq_false_iff_not, if_true, Bool.false_eq_true, if_false, ite_true, ite_false, List.getD_cons_zero, List.getD_cons_succ, List.take_succ_cons, List.take_zero, List.drop_succ_cons, List.drop_zero, eq_self, not_true_eq_false, not_false_eq_true, Bool.true_eq_false, Bool.not_true, Bool.not_false, $xs,*])
namespace DL
open PySem PySem.Spec PyProof.Rows L2
/-! ### the draws of a law -/
def takeC : List CS := [.if_ (.ccmp .Gt (.ix (.var 0) (.con (.int 0))) (.con (.int 0))) [.asg (.name 7) (.bin .Mod false (.ix (.var 0) (.con (.int 0))) (.var 1)),
    .asg (.sub (.var 0) (.con (.int 0))) (.bin .FloorDiv false (.ix (.var 0) (.con (.int 0))) (.var 1)),
    .ret (.var 7)] [],
  .asg (.name 2) (.bin .Add false (.ix (.var 0) (.con (.int 2))) (.con (.int 1))),
  .asg (.sub (.var 0) (.con (.int 2))) (.var 2),
  .asg (.name 3) (.bin .Add false (.ix (.var 0) (.con (.int 1))) (.bin .Mult false (.con (.int 15485867)) (.var 2))),
  .asg (.name 4) (.bin .Add false (.bin .Add false (.bin .Mod false (.ix (.var 0) (.con (.int 1))) (.con (.int 7907))) (.bin .Mult false (.con (.int 32452867)) (.var 2))) (.con (.int 19))),
  .asg (.name 5) (.bin .Mod false (.bin .Mult false (.var 3) (.var 4)) (.con (.int 2305843009213693951))),
  .asg (.name 6) (.bin .Add false (.bin .Add false (.bin .Mod false (.var 5) (.con (.int 1000003))) (.bin .Mult false (.con (.int 6700441)) (.var 2))) (.con (.int 7))),
  .ret (.bin .Mod false (.bin .FloorDiv false (.bin .Mod false (.bin .Mult false (.bin .Add false (.var 5) (.con (.int 11))) (.var 6)) (.con (.int 2305843009213693907))) (.con (.int 64))) (.var 1))]
def potC (g m t : Int) : Cell := .lst [.int g, .int m, .int t]
structure POk (g m t : Int) : Prop where
  g0 : 0 ≤ g
  gb : g < 10 ^ 180
  m0 : 0 ≤ m
  mb : m < 2 ^ 61
  t0 : 0 ≤ t
  tb : t ≤ 1000000000
def spTake (ds : List D) (S : DStore) (Q : QE) : Prop := ∃ n many g m t, ds = [.ref n, .int many] ∧ S[n]? = some (potC g m t) ∧ POk g m t ∧ t < 1000000000 ∧ 0 < many ∧ many < 2 ^ 60 ∧
  ∀ v g' t', 0 ≤ v → v < many → POk g' m t' → t ≤ t' → t' ≤ t + 1 → Q (.int v) (S.set n (potC g' m t'))
theorem spTake_len : ∀ ds S Q, spTake ds S Q → ds.length = 2 := by
  rintro ds S Q ⟨n, many, g, m, t, rfl, _⟩; rfl
theorem set_get {S : DStore} {n : Nat} {c d : Cell} (h : S[n]? = some c) : (S.set n d)[n]? = some d := by
  rw [List.getElem?_set_self (List.getElem?_eq_some_iff.mp h).1]
theorem if_i {c : Prop} [Decidable c] {A B : Prop} (h1 : c → A) (h2 : ¬ c → B) : if c then A else B := by split <;> simp_all
theorem fmod_pos {a b : Int} (h : 0 < b) : 0 ≤ a.fmod b ∧ a.fmod b < b := ⟨Int.fmod_nonneg_of_pos a h, Int.fmod_lt_of_pos a h⟩
theorem take_ok {G : Fns} : ∀ ds S Q, spTake ds S Q → wpSs G takeC (startD 8 ds) S { nx := fun _ S' => Q .non S', rt := Q } := by
  rintro ds S Q ⟨n, many, g, m, t, rfl, hS, ok, htb, hm0, hmb, hQ⟩
  have hS' : S[n]? = some (.lst [.int g, .int m, .int t]) := hS
  have hmk : ∀ c : Cell, (S.set n c)[n]? = some c := fun c => set_get hS
  unfold takeC
  simp_arith only [hS', hmk]
  have h64 : (2305843009213693951 : Int) < 2 ^ 64 := by decide
  have m0 := ok.m0
  have mb := ok.mb
  have t0 := ok.t0
  have g0 := ok.g0
  split
  · rename_i hg
    have hd := fmod_pos (a := g) hm0
    refine ⟨by omega, div_small (by omega) ?_, hQ _ _ t hd.1 hd.2 ⟨?_, ?_, m0, mb, t0, ok.tb⟩ (Int.le_refl _) (by omega)⟩
    · have : many.natAbs < 2 ^ 60 := by omega
      exact Nat.lt_of_lt_of_le this (Nat.pow_le_pow_right (by decide) (by decide))
    · rw [Int.fdiv_eq_ediv_of_nonneg _ (by omega)]; exact Int.ediv_nonneg g0 (by omega)
    · rw [Int.fdiv_eq_ediv_of_nonneg _ (by omega)]
      exact Int.lt_of_le_of_lt (Int.ediv_le_self _ g0) ok.gb
  · refine ⟨mul_small_left (by decide) (by decide), by decide, mul_small_left (by decide) (by decide), ?_⟩
    have hd := fmod_pos (a := m) (b := 7907) (by decide)
    refine ⟨mul_small_left (by omega) (by omega), by decide, by decide, mul_small_left (by decide) (by decide), ?_⟩
    generalize (m + 15485867 * (t + 1)) * (m.fmod 7907 + 32452867 * (t + 1) + 19) = A
    have hA := fmod_pos (a := A) (b := 2305843009213693951) (by decide)
    refine ⟨mul_small_left (by omega) (by omega), by decide, div_small (by decide) ?_, by omega, ?_⟩
    · exact Nat.lt_of_lt_of_le (show (64 : Int).natAbs < 2 ^ 7 by decide) (Nat.pow_le_pow_right (by decide) (by decide))
    · have hv := fmod_pos (a := (((A.fmod 2305843009213693951 + 11) * ((A.fmod 2305843009213693951).fmod 1000003 + 6700441 * (t + 1) + 7)).fmod 2305843009213693907).fdiv 64) hm0
      exact hQ _ g (t + 1) hv.1 hv.2 ⟨g0, ok.gb, m0, mb, by omega, by omega⟩ (by omega) (Int.le_refl _)
/-- what a draw is: one of some -/
def pickC (j : Nat) : List CS := [.ret (.ix (.var 1) (.call j [(.var 0), (.bi .len false [(.var 1)])]))]
def spPick (ds : List D) (S : DStore) (Q : QE) : Prop := ∃ n d xs g m t, ds = [.ref n, d] ∧ (d = .lst xs ∨ d = .tup xs) ∧ S[n]? = some (potC g m t) ∧ POk g m t ∧ t < 1000000000 ∧ xs ≠ [] ∧ xs.length < 2 ^ 50 ∧
  ∀ y g' t', y ∈ xs → POk g' m t' → t ≤ t' → t' ≤ t + 1 → Q y (S.set n (potC g' m t'))
theorem spPick_len : ∀ ds S Q, spPick ds S Q → ds.length = 2 := by
  rintro ds S Q ⟨n, d, xs, g, m, t, rfl, _⟩; rfl
theorem pick_ok {G : Fns} {j : Nat} (hG : G.fn j = spTake) : ∀ ds S Q, spPick ds S Q → wpSs G (pickC j) (startD 2 ds) S { nx := fun _ S' => Q .non S', rt := Q } := by
  rintro ds S Q ⟨n, d, xs, g, m, t, rfl, hd, hS, ok, htb, hx, hxl, hQ⟩
  have hl : 0 < xs.length := List.length_pos_iff.mpr hx
  unfold pickC
  have fin : ∀ v g' t', 0 ≤ v → v < (xs.length : Int) → POk g' m t' → t ≤ t' → t' ≤ t + 1 → ∃ y, atI xs v = some y ∧ Q y (S.set n (potC g' m t')) := by
    intro v g' t' h0 h1 ok' h2 h3
    have hi : v.toNat < xs.length := by omega
    exact ⟨xs[v.toNat], atI_nat' h0 (List.getElem?_eq_getElem hi), hQ _ _ _ (List.getElem_mem hi) ok' h2 h3⟩
  rcases hd with rfl | rfl
  · simp_arith only [hG]
    refine ⟨n, _, g, m, t, rfl, hS, ok, htb, by omega, by omega, fun v g' t' h0 h1 ok' h2 h3 => ?_⟩
    simp_arith only []
    exact fin v g' t' h0 h1 ok' h2 h3
  · simp_arith only [hG]
    refine ⟨n, _, g, m, t, rfl, hS, ok, htb, by omega, by omega, fun v g' t' h0 h1 ok' h2 h3 => ?_⟩
    simp_arith only []
    exact fin v g' t' h0 h1 ok' h2 h3
/-- a draw where nothing else in the store is asked for -/
theorem takeA {n : Nat} {many g m t : Int} {S : DStore} {Q : QE} (hS : S[n]? = some (potC g m t)) (ok : POk g m t) (ht : t < 1000000000) (h0 : 0 < many) (hb : many < 2 ^ 60)
    (h : ∀ v g' t' S', 0 ≤ v → v < many → POk g' m t' → t' ≤ t + 1 → S'[n]? = some (potC g' m t') → Q (.int v) S') : spTake [.ref n, .int many] S Q :=
  ⟨n, many, g, m, t, rfl, hS, ok, ht, h0, hb, fun v g' t' a b c _ d => h v g' t' _ a b c d (set_get hS)⟩
theorem pickA {n : Nat} {xs : List D} {g m t : Int} {S : DStore} {Q : QE} (hS : S[n]? = some (potC g m t)) (ok : POk g m t) (ht : t < 1000000000)
    (h : ∀ y g' t' S', y ∈ xs → POk g' m t' → t' ≤ t + 1 → S'[n]? = some (potC g' m t') → Q y S') (hx : xs ≠ [] := by simp) (hl : xs.length ≤ 1000000 := by simp) : spPick [.ref n, .lst xs] S Q :=
  ⟨n, _, xs, g, m, t, rfl, .inl rfl, hS, ok, ht, hx, Nat.lt_of_le_of_lt hl (by decide), fun y g' t' a b _ c => h y g' t' _ a b c (set_get hS)⟩
theorem takeF {n : Nat} {many g m t : Int} {S : DStore} {Q : QE} (hS : S[n]? = some (potC g m t)) (ok : POk g m t) (ht : t < 1000000000) (h0 : 0 < many) (hb : many < 2 ^ 60)
    (h : ∀ v g' t' S', 0 ≤ v → v < many → POk g' m t' → t' ≤ t + 1 → S'[n]? = some (potC g' m t') → (∀ j, j ≠ n → S'[j]? = S[j]?) → Q (.int v) S') : spTake [.ref n, .int many] S Q :=
  ⟨n, many, g, m, t, rfl, hS, ok, ht, h0, hb, fun v g' t' a b c _ d => h v g' t' _ a b c d (set_get hS) fun j hj => List.getElem?_set_ne (fun z => hj z.symm)⟩
theorem pickF {n : Nat} {xs : List D} {g m t : Int} {S : DStore} {Q : QE} (hS : S[n]? = some (potC g m t)) (ok : POk g m t) (ht : t < 1000000000)
    (h : ∀ y g' t' S', y ∈ xs → POk g' m t' → t' ≤ t + 1 → S'[n]? = some (potC g' m t') → (∀ j, j ≠ n → S'[j]? = S[j]?) → Q y S') (hx : xs ≠ [] := by simp) (hl : xs.length ≤ 1000000 := by simp) : spPick [.ref n, .lst xs] S Q :=
  ⟨n, _, xs, g, m, t, rfl, .inl rfl, hS, ok, ht, hx, Nat.lt_of_le_of_lt hl (by decide), fun y g' t' a b _ c => h y g' t' _ a b c (set_get hS) fun j hj => List.getElem?_set_ne (fun z => hj z.symm)⟩
theorem repr4 {S : DStore} {m : Bool} {d : D} {p : PyData} {Q : QE} (e : purS S d = some p) (h : okP p = true) (q : Q (.str p.shown) S) (hs : (szP p).ble 16000000 = true := by rfl) (hd : p.depth.ble 50 = true := by rfl) : biD .repr1 m [d] S Q :=
  ⟨p, e, rep_ok2 h (Nat.le_of_ble_eq_true hs) (Nat.le_of_ble_eq_true hd), q⟩
theorem repr2 {S : DStore} {m : Bool} {d : D} {p : PyData} {c : Nat} {Q : QE} (e : purS S d = some p) (h : costP p = some c) (hc : c ≤ 16000000) (hd : p.depth ≤ 50) (q : Q (.str p.shown) S) : biD .repr1 m [d] S Q := ⟨p, e, rep_ok h hc hd, q⟩
def handC : List CS := [.asg (.name 2) (.ite (.ccmp .Lt (.var 1) (.bi .len false [(.var 0)])) (.ix (.var 0) (.var 1)) (.con (.int 0))),
  .asg (.name 3) (.ite (.ccmp .GtE (.bi .abs false [(.var 2)]) (.bin .Pow false (.con (.int 10)) (.con (.int 18)))) (.bin .Mod false (.bi .abs false [(.var 2)]) (.bin .Mult false (.bin .Mult false (.bin .Pow false (.con (.int 10)) (.con (.int 60))) (.bin .Pow false (.con (.int 10)) (.con (.int 60)))) (.bin .Pow false (.con (.int 10)) (.con (.int 60))))) (.con (.int 0))),
  .ret (.lst true [(.var 3), (.bin .Mod false (.bin .Add false (.bin .Add false (.bin .Mult false (.bin .Mod false (.var 2) (.con (.int 2305843009213693951))) (.con (.int 1000033))) (.bin .Mult false (.con (.int 6857)) (.var 1))) (.con (.int 41))) (.con (.int 2305843009213693921))), (.con (.int 0))])]
def spHand (ds : List D) (S : DStore) (Q : QE) : Prop := ∃ (ns : List Int) (k : Int), ds = [.scr (ns.map D.int), .int k] ∧ 0 ≤ k ∧ k ≤ 1000 ∧ ∀ g m, POk g m 0 → Q (.ref S.length) (S ++ [potC g m 0])
theorem handA {ns : List Int} {k : Int} {S : DStore} {Q : QE} (h0 : 0 ≤ k) (h1 : k ≤ 1000) (h : ∀ g m n S', POk g m 0 → S'[n]? = some (potC g m 0) → Q (.ref n) S') : spHand [.scr (ns.map D.int), .int k] S Q :=
  ⟨ns, k, rfl, h0, h1, fun g m ok => h g m _ _ ok (by simp)⟩
theorem spHand_len : ∀ ds S Q, spHand ds S Q → ds.length = 2 := by
  rintro ds S Q ⟨ns, k, rfl, _⟩; rfl
theorem hand_ok {G : Fns} : ∀ ds S Q, spHand ds S Q → wpSs G handC (startD 4 ds) S { nx := fun _ S' => Q .non S', rt := Q } := by
  rintro ds S Q ⟨ns, k, rfl, hk0, hk, hQ⟩
  unfold handC
  simp_arith only [List.length_map]
  have e60 : ((10 : Int) ^ (60 : Int).toNat) = 10 ^ 60 := rfl
  have p1 : CPow 10 18 := pow_ok (by decide) (by decide) (by decide)
  have p2 : CPow 10 60 := pow_ok (by decide) (by decide) (by decide)
  have m1 : MulOk ((10 : Int) ^ (60 : Int).toNat) ((10 : Int) ^ (60 : Int).toNat) := .inr (wide_mul (a := 200) (b := 200) (by decide) (by decide) (by decide) (by decide) (by decide))
  have m2 : MulOk ((10 : Int) ^ (60 : Int).toNat * (10 : Int) ^ (60 : Int).toNat) ((10 : Int) ^ (60 : Int).toNat) := .inr (wide_mul (a := 400) (b := 200) (by decide) (by decide) (by decide) (by decide) (by decide))
  have n1 : ((10 : Int) ^ (60 : Int).toNat * (10 : Int) ^ (60 : Int).toNat * (10 : Int) ^ (60 : Int).toNat) ≠ 0 := by decide
  have b1 : ((10 : Int) ^ (60 : Int).toNat * (10 : Int) ^ (60 : Int).toNat * (10 : Int) ^ (60 : Int).toNat) = 10 ^ 180 := by decide
  have fin : ∀ x y : Int, POk (x.fmod ((10 : Int) ^ (60 : Int).toNat * (10 : Int) ^ (60 : Int).toNat * (10 : Int) ^ (60 : Int).toNat)) (y.fmod 2305843009213693921) 0 := fun x y => by
    have h1 := fmod_pos (a := x) (b := 10 ^ 180) (by decide)
    have h2 := fmod_pos (a := y) (b := 2305843009213693921) (by decide)
    rw [b1]
    exact ⟨h1.1, h1.2, h2.1, Int.lt_trans h2.2 (by decide), Int.le_refl _, by decide⟩
  have fin0 : ∀ y : Int, POk 0 (y.fmod 2305843009213693921) 0 := fun y => by
    have h2 := fmod_pos (a := y) (b := 2305843009213693921) (by decide)
    exact ⟨Int.le_refl _, by decide, h2.1, Int.lt_trans h2.2 (by decide), Int.le_refl _, by decide⟩
  refine if_i (fun hlt => ?_) fun _ => ?_
  · have hi : k.toNat < ns.length := by omega
    refine ⟨.int ns[k.toNat], atI_nat' hk0 (by rw [List.getElem?_map, List.getElem?_eq_getElem hi]; rfl), ?_⟩
    simp_arith only []
    refine ⟨p1, if_i (fun _ => ?_) fun _ => ?_⟩
    · exact ⟨p2, p2, m1, p2, m2, n1, by decide, mul_small_right (by decide) (by decide), mul_small_left (by decide) (by decide), by decide, hQ _ _ (fin _ _)⟩
    · exact ⟨by decide, mul_small_right (by decide) (by decide), mul_small_left (by decide) (by decide), by decide, hQ _ _ (fin0 _)⟩
  · refine ⟨p1, if_i (fun _ => ?_) fun _ => ?_⟩
    · exact ⟨p2, p2, m1, p2, m2, n1, by decide, mul_small_right (by decide) (by decide), mul_small_left (by decide) (by decide), by decide, hQ _ _ (fin _ _)⟩
    · exact ⟨by decide, mul_small_right (by decide) (by decide), mul_small_left (by decide) (by decide), by decide, hQ _ _ (fin0 _)⟩
end DL

namespace DL
open PySem PySem.Spec PyProof.Rows L2
theorem pow_lt_9000 {x : Nat} {k : Nat} (h : x < 2 ^ k) (hk : k ≤ 9000) : x < 2 ^ 9000 := Nat.lt_of_lt_of_le h (Nat.pow_le_pow_right (by decide) hk)
theorem bits_one : Builtin.Int.intBits 1 = 1 := by decide +kernel
theorem cpow1 {f : Int} (h0 : 0 ≤ f) (h1 : f ≤ 1000000) : CShl 1 f := ⟨h0, by rw [bits_one]; omega⟩
def gI (gs : List Int) (i : Int) : Int := gs.getD i.toNat 0
theorem at_g {gs : List Int} {i : Int} (h0 : 0 ≤ i) (h1 : i < gs.length) : atI (gs.map D.int) i = some (.int (gI gs i)) := by
  refine atI_nat' h0 ?_
  have : i.toNat < gs.length := by omega
  rw [List.getElem?_map, List.getElem?_eq_getElem this]
  simp [gI, List.getD_eq_getElem?_getD, List.getElem?_eq_getElem this]
theorem at_m1 {gs : List Int} (h : 0 < gs.length) : atI (gs.map D.int) (-1) = some (.int (gI gs (gs.length - 1))) := by
  have := at_g (gs := gs) (i := gs.length - 1) (by omega) (by omega)
  unfold atI at this ⊢
  unfold ixN at this ⊢
  rw [List.length_map] at this ⊢
  rw [if_pos (by omega), if_pos (by omega)] at this
  rw [if_neg (by omega), if_pos (by omega)]
  rw [← this]
  congr 1
theorem gI_bd {gs : List Int} {B : Int} (hB : 0 ≤ B) (h : ∀ x ∈ gs, -B ≤ x ∧ x ≤ B) (i : Int) : -B ≤ gI gs i ∧ gI gs i ≤ B := by
  unfold gI
  rw [List.getD_eq_getElem?_getD]
  cases e : gs[i.toNat]? with
  | none => simp; omega
  | some x => exact h x (List.mem_of_getElem? e)
theorem o_addRL {m : Bool} {n : Nat} {xs b : List D} {S : DStore} {Q : QE} (h : S[n]? = some (.lst xs)) (hl : xs.length + b.length ≤ sizeLine) (hQ : newL m (xs ++ b) S Q) : binD .Add m (.ref n) (.lst b) S Q :=
  ⟨xs, b, by simp [lstOf, h], rfl, hl, hQ⟩
/-! ### pots: the draws' state, its turns counted -/
def Pot (n : Nat) (T : Int) (S : DStore) : Prop := ∃ g m t, S[n]? = some (potC g m t) ∧ POk g m t ∧ t ≤ T
/-- all other things in the store stay -/
structure Fr (n : Nat) (S S' : DStore) : Prop where
  len : S.length ≤ S'.length
  keep : ∀ j, j ≠ n → j < S.length → S'[j]? = S[j]?
theorem Fr.refl {n : Nat} {S : DStore} : Fr n S S := ⟨Nat.le_refl _, fun _ _ _ => rfl⟩
theorem Fr.trans {n : Nat} {S S1 S2 : DStore} (a : Fr n S S1) (b : Fr n S1 S2) : Fr n S S2 :=
  ⟨Nat.le_trans a.len b.len, fun j h1 h2 => (b.keep j h1 (Nat.lt_of_lt_of_le h2 a.len)).trans (a.keep j h1 h2)⟩
theorem Fr.app {n : Nat} {S : DStore} {cs : List Cell} : Fr n S (S ++ cs) := ⟨by simp, fun j _ h => List.getElem?_append_left h⟩
theorem Fr.set {n i : Nat} {S S' : DStore} {c : Cell} (h : Fr n S S') (hi : S.length ≤ i) : Fr n S (S'.set i c) :=
  ⟨by simpa using h.len, fun j h1 h2 => by rw [List.getElem?_set_ne (by omega)]; exact h.keep j h1 h2⟩
theorem Fr.get {n i : Nat} {S S' : DStore} {c : Cell} (h : Fr n S S') (hi : i ≠ n) (e : S[i]? = some c) : S'[i]? = some c :=
  (h.keep i hi (List.getElem?_eq_some_iff.mp e).1).trans e
/-- all things stay -/
def Kp (S S' : DStore) : Prop := ∀ (j : Nat) (c : Cell), S[j]? = some c → S'[j]? = some c
theorem Kp.len {S S' : DStore} (h : Kp S S') : S.length ≤ S'.length := by
  rcases Nat.lt_or_ge S'.length S.length with hl | hl
  · have := h S'.length S[S'.length] (List.getElem?_eq_getElem hl)
    have := (List.getElem?_eq_some_iff.mp this).1
    omega
  · exact hl
theorem Kp.fr {n : Nat} {S S' : DStore} (h : Kp S S') : Fr n S S' := ⟨h.len, fun j _ hj => by
  rw [List.getElem?_eq_getElem hj]; exact h j _ (List.getElem?_eq_getElem hj)⟩
theorem Pot.keep {n : Nat} {T : Int} {S S' : DStore} (h : Pot n T S) (k : Kp S S') : Pot n T S' := let ⟨g, m, t, a, b, c⟩ := h; ⟨g, m, t, k _ _ a, b, c⟩
theorem Pot.mono {n : Nat} {T T' : Int} {S : DStore} (h : Pot n T S) (hT : T ≤ T') : Pot n T' S := let ⟨g, m, t, a, b, c⟩ := h; ⟨g, m, t, a, b, Int.le_trans c hT⟩
theorem Pot.lt {n : Nat} {T : Int} {S : DStore} (h : Pot n T S) : n < S.length := let ⟨_, _, _, a, _⟩ := h; (List.getElem?_eq_some_iff.mp a).1
theorem Pot.app {n : Nat} {T : Int} {S : DStore} {cs : List Cell} (h : Pot n T S) : Pot n T (S ++ cs) := let ⟨g, m, t, a, b, d⟩ := h; ⟨g, m, t, by rw [List.getElem?_append_left (List.getElem?_eq_some_iff.mp a).1]; exact a, b, d⟩
theorem Pot.set {n q : Nat} {T : Int} {S : DStore} {c : Cell} (h : Pot n T S) (hq : q ≠ n) : Pot n T (S.set q c) := let ⟨g, m, t, a, b, d⟩ := h; ⟨g, m, t, by rw [List.getElem?_set_ne hq]; exact a, b, d⟩
theorem takeP {n : Nat} {many T : Int} {S : DStore} {Q : QE} (hP : Pot n T S) (ht : T < 1000000000) (h0 : 0 < many) (hb : many < 2 ^ 60)
    (h : ∀ v S', 0 ≤ v → v < many → Pot n (T + 1) S' → Fr n S S' → S'.length = S.length → Q (.int v) S') : spTake [.ref n, .int many] S Q := by
  obtain ⟨g, m, t0, hS, ok, hl⟩ := hP
  exact ⟨n, many, g, m, t0, rfl, hS, ok, by omega, h0, hb, fun v g' t' a b c _ d => h v _ a b ⟨g', m, t', set_get hS, c, by omega⟩ ⟨by simp, fun j hj _ => List.getElem?_set_ne (fun z => hj z.symm)⟩ (by simp)⟩
theorem pickP {n : Nat} {xs : List D} {T : Int} {S : DStore} {Q : QE} (hP : Pot n T S) (ht : T < 1000000000)
    (h : ∀ y S', y ∈ xs → Pot n (T + 1) S' → Fr n S S' → S'.length = S.length → Q y S') (hx : xs ≠ [] := by simp) (hl : xs.length ≤ 1000000 := by simp) : spPick [.ref n, .lst xs] S Q := by
  obtain ⟨g, m, t0, hS, ok, hle⟩ := hP
  exact ⟨n, _, xs, g, m, t0, rfl, .inl rfl, hS, ok, by omega, hx, Nat.lt_of_le_of_lt hl (by decide), fun y g' t' a b _ c => h y _ a ⟨g', m, t', set_get hS, b, by omega⟩ ⟨by simp, fun j hj _ => List.getElem?_set_ne (fun z => hj z.symm)⟩ (by simp)⟩
theorem pickTP {n : Nat} {xs : List D} {T : Int} {S : DStore} {Q : QE} (hP : Pot n T S) (ht : T < 1000000000)
    (h : ∀ y S', y ∈ xs → Pot n (T + 1) S' → Fr n S S' → S'.length = S.length → Q y S') (hx : xs ≠ [] := by simp) (hl : xs.length ≤ 1000000 := by simp) : spPick [.ref n, .tup xs] S Q := by
  obtain ⟨g, m, t0, hS, ok, hle⟩ := hP
  exact ⟨n, _, xs, g, m, t0, rfl, .inr rfl, hS, ok, by omega, hx, Nat.lt_of_le_of_lt hl (by decide), fun y g' t' a b _ c => h y _ a ⟨g', m, t', set_get hS, b, by omega⟩ ⟨by simp, fun j hj _ => List.getElem?_set_ne (fun z => hj z.symm)⟩ (by simp)⟩
/-- whole numbers from lo to hi -/
def allI (lo hi : Int) : List D → Prop
  | [] => True
  | .int k :: r => (lo ≤ k ∧ k ≤ hi) ∧ allI lo hi r
  | _ => False
theorem allI_mem {lo hi : Int} : ∀ {xs : List D}, allI lo hi xs → ∀ y ∈ xs, ∃ k : Int, y = .int k ∧ lo ≤ k ∧ k ≤ hi
  | [], _, y, hy => by cases hy
  | .int k :: r, h, y, hy => by
    rcases List.mem_cons.mp hy with rfl | hy
    · exact ⟨k, rfl, h.1.1, h.1.2⟩
    · exact allI_mem h.2 y hy
theorem pickI {lo hi : Int} {n : Nat} {xs : List D} {T : Int} {S : DStore} {Q : QE} (hP : Pot n T S) (ht : T < 1000000000) (ha : allI lo hi xs)
    (h : ∀ v S', lo ≤ v → v ≤ hi → Pot n (T + 1) S' → Fr n S S' → S'.length = S.length → Q (.int v) S') (hx : xs ≠ [] := by simp) (hl : xs.length ≤ 1000000 := by simp) : spPick [.ref n, .lst xs] S Q :=
  pickP hP ht (fun y S' hy hP' hF hL => by
    obtain ⟨k, rfl, h0, h1⟩ := allI_mem ha y hy
    exact h k S' h0 h1 hP' hF hL) hx hl
theorem handP {ns : List Int} {k : Int} {S : DStore} {Q : QE} (h0 : 0 ≤ k) (h1 : k ≤ 1000) (h : ∀ n S', Pot n 0 S' → Fr n S S' → S'.length = n + 1 → Q (.ref n) S') : spHand [.scr (ns.map D.int), .int k] S Q :=
  ⟨ns, k, rfl, h0, h1, fun g m ok => h _ _ ⟨g, m, 0, by simp, ok, Int.le_refl _⟩ Fr.app (by simp)⟩
theorem len_le {n : Nat} (h : n ≤ 1000000) : n ≤ sizeLine := Nat.le_trans h (by decide)
theorem len_lt {n : Nat} (h : n < 1000000) : n < sizeLine := Nat.lt_of_lt_of_le h (by decide)
theorem div_om {j : Int} (h0 : j ≠ 0) (h1 : -4611686018427387904 < j) (h2 : j < 4611686018427387904) : DivOk j := div_small h0 (pow_lt_9000 (k := 62) (by omega) (by decide))
theorem fdiv_e {a b : Int} (h : 0 ≤ b) : a.fdiv b = a / b := Int.fdiv_eq_ediv_of_nonneg _ h
theorem fmod_e {a b : Int} (h : 0 ≤ b) : a.fmod b = a % b := Int.fmod_eq_emod_of_nonneg _ h
theorem cut_to {xs : List D} {k : Nat} : cutD xs none (some (k : Int)) = xs.take k := by
  unfold cutD
  rw [HT.sIx_none, HT.sIx_nat, List.drop_zero, Nat.sub_zero]
  rcases Nat.le_total k xs.length with h | h
  · rw [Nat.min_eq_left h]
  · rw [Nat.min_eq_right h, List.take_length, List.take_of_length_le h]
theorem cut_from {xs : List D} {k : Nat} : cutD xs (some (k : Int)) none = xs.drop k := by
  unfold cutD
  rw [HT.sIx_none, HT.sIx_nat]
  rcases Nat.le_total k xs.length with h | h
  · rw [Nat.min_eq_left h, List.take_of_length_le (by simp)]
  · rw [Nat.min_eq_right h, List.drop_length, List.drop_of_length_le h]; simp
theorem shl_ok {x f : Int} {k : Nat} (h0 : 0 ≤ f) (hx : x.natAbs < 2 ^ k) (hk : 0 < k) (hf : (k : Int) + f ≤ 100000) : CShl x f := by
  refine ⟨h0, ?_⟩
  have hb : Builtin.Int.intBits x ≤ x.natAbs.log2 + 1 := by
    unfold Builtin.Int.intBits
    split <;> omega
  have hl := PySem.Flt.log2_lt_of hk hx
  omega
/-! ### split a body -/
theorem ss_take {G : Fns} : ∀ (k : Nat) (l : List CS) (ρ : DEnv) (S : DStore) (K : DEnds), wpSs G l ρ S K = wpSs G (l.take k) ρ S { K with nx := fun ρ' S' => wpSs G (l.drop k) ρ' S' K }
  | 0, l, ρ, S, K => by simp only [List.take_zero, List.drop_zero, wpSs]
  | k + 1, [], ρ, S, K => by simp only [List.take_nil, List.drop_nil, wpSs]
  | k + 1, s :: l, ρ, S, K => by
    simp only [List.take_succ_cons, List.drop_succ_cons, wpSs]
    congr 2
    funext ρ' S'
    exact ss_take k l ρ' S' K
theorem ss_split {G : Fns} (k : Nat) {l : List CS} {ρ : DEnv} {S : DStore} {nx : DEnv → DStore → Prop} {rt : QE} {bk ct : DEnv → DStore → Prop} (P : DEnv → DStore → Prop)
    (h1 : ∀ N : DEnv → DStore → Prop, (∀ ρ' S', P ρ' S' → N ρ' S') → wpSs G (l.take k) ρ S ⟨N, rt, bk, ct⟩) (h2 : ∀ ρ' S', P ρ' S' → wpSs G (l.drop k) ρ' S' ⟨nx, rt, bk, ct⟩) : wpSs G l ρ S ⟨nx, rt, bk, ct⟩ := by
  rw [ss_take k]
  exact h1 _ h2
theorem Kp.trans {S S' S'' : DStore} (a : Kp S S') (b : Kp S' S'') : Kp S S'' := fun j c h => b j c (a j c h)
theorem kp_set {S S' : DStore} {n : Nat} {c : Cell} (h : Kp S S') (hn : S.length ≤ n) : Kp S (S'.set n c) := fun j d hj => by
  have := (List.getElem?_eq_some_iff.mp hj).1
  rw [List.getElem?_set_ne (by omega)]; exact h j d hj
theorem kp_refl {S : DStore} : Kp S S := fun _ _ h => h
theorem kp_app {S : DStore} {cs : List Cell} : Kp S (S ++ cs) := fun j c hj => by rw [List.getElem?_append_left (List.getElem?_eq_some_iff.mp hj).1]; exact hj
theorem at_map {α : Type} {l : List α} {mk : α → D} {k : Nat} {x : α} (h : l[k]? = some x) : atI (l.map mk) (k : Int) = some (mk x) :=
  atI_nat' (by omega) (by rw [Int.toNat_natCast, List.getElem?_map, h]; rfl)
theorem s_nilA {G : Fns} {ρ : DEnv} {S : DStore} {K : DEnds} : wpSs G [] ρ S K = K.nx ρ S := by simp only [wpSs]
theorem eq_same {S : DStore} {x : D} {p : PyData} {QB : Bool → Prop} (hx : ∀ i, x ≠ .int i) (hb : ∀ i, x ≠ .bl i) (hst : ∀ i, x ≠ .str i) (e : purS S x = some p) (sh : SeqAt.shaped p = true) (q : QB true) : cmpD .Eq S x x QB := by
  show eqD S x x QB
  unfold eqD
  split
  · exact absurd rfl (hx _)
  · exact absurd rfl (hb _)
  · exact absurd rfl (hst _)
  · have lay : p.canLay0 = true := by
      unfold SeqAt.shaped at sh
      exact (Bool.and_eq_true_iff.mp sh).1
    exact ⟨p, p, e, e, sh, sh, by rw [SeqAt.eqv_refl p lay]; exact q⟩
theorem ne_same {S : DStore} {x : D} {p : PyData} {QB : Bool → Prop} (hx : ∀ i, x ≠ .int i) (hb : ∀ i, x ≠ .bl i) (hst : ∀ i, x ≠ .str i) (e : purS S x = some p) (sh : SeqAt.shaped p = true) (q : QB false) : cmpD .NotEq S x x QB :=
  eq_same (QB := fun b => QB (!b)) hx hb hst e sh q
def gW (I : DStore → Prop) (turn : D → DStore → (Option D → DStore → Prop) → Prop) (Q : List D → DStore → Prop) (len : Nat) : List D → Nat → List D → DStore → Prop
  | [], i, acc, S => (I S ∧ acc.length ≤ i ∧ i ≤ len) ∧ Q acc S
  | x :: xs, i, acc, S => (I S ∧ acc.length ≤ i ∧ i ≤ len) ∧ turn x S fun o S' => match o with
    | some y => gW I turn Q len xs (i + 1) (acc ++ [y]) S'
    | none => gW I turn Q len xs (i + 1) acc S'
theorem gW_w {I turn Q len} : ∀ {xs i acc S}, gW I turn Q len xs i acc S → I S ∧ acc.length ≤ i ∧ i ≤ len
  | [], _, _, _, h => h.1
  | _ :: _, _, _, _, h => h.1
theorem gather_run {items : List D} {I : DStore → Prop} {S : DStore} {turn : D → DStore → (Option D → DStore → Prop) → Prop} {Q : List D → DStore → Prop} (hl : items.length ≤ sizeLine) (h : gW I turn Q items.length items 0 [] S) : wpGather items I S turn Q := by
  refine ⟨fun i acc S => gW I turn Q items.length (items.drop i) i acc S, h, fun i acc S h => gW_w h, hl, fun i x acc S h e => ?_, fun acc S h => ?_⟩
  · have hi := (List.getElem?_eq_some_iff.mp e).1
    replace h : gW I turn Q items.length (items.drop i) i acc S := h
    rw [List.drop_eq_getElem_cons hi] at h
    have ex : items[i] = x := (List.getElem?_eq_some_iff.mp e).2
    rw [ex] at h
    exact h.2
  · replace h : gW I turn Q items.length (items.drop items.length) items.length acc S := h
    rw [List.drop_length] at h
    exact h.2
def wW (I : DStore → Prop) (turn : D → DEnv → DStore → (DEnv → DStore → Prop) → Prop) (Q : DEnv → DStore → Prop) : List D → DEnv → DStore → Prop
  | [], ρ, S => I S ∧ Q ρ S
  | x :: xs, ρ, S => I S ∧ turn x ρ S fun ρ' S' => wW I turn Q xs ρ' S'
theorem wW_w {I turn Q} : ∀ {xs ρ S}, wW I turn Q xs ρ S → I S
  | [], _, _, h => h.1
  | _ :: _, _, _, h => h.1
theorem walk_run {items : List D} {I : DStore → Prop} {ρ : DEnv} {S : DStore} {turn : D → DEnv → DStore → (DEnv → DStore → Prop) → Prop} {Q : DEnv → DStore → Prop} (h : wW I turn Q items ρ S) : wpWalk items I ρ S turn Q := by
  refine ⟨fun i ρ S => wW I turn Q (items.drop i) ρ S, h, fun i ρ S h => wW_w h, fun i x ρ S h e => ?_, fun ρ S h => ?_⟩
  · have hi := (List.getElem?_eq_some_iff.mp e).1
    replace h : wW I turn Q (items.drop i) ρ S := h
    rw [List.drop_eq_getElem_cons hi] at h
    have ex : items[i] = x := (List.getElem?_eq_some_iff.mp e).2
    rw [ex] at h
    exact h.2
  · replace h : wW I turn Q (items.drop items.length) ρ S := h
    rw [List.drop_length] at h
    exact h.2
section
variable {κ : Type} [DecidableEq κ]
theorem valD_nil (k : κ) : valD [] k = none := rfl
theorem valD_mem {kvs : List (κ × D)} {k : κ} {d : D} (h : valD kvs k = some d) : (k, d) ∈ kvs := by
  unfold valD at h
  obtain ⟨p, h1, h2⟩ := Option.map_eq_some_iff.mp h
  have h3 := List.find?_some h1
  have h4 := List.mem_of_find?_eq_some h1
  have : p = (k, d) := by
    cases p; simp only [decide_eq_true_eq] at h3; simp only at h2; rw [h3, h2]
  rw [← this]; exact h4
theorem valD_cons {p : κ × D} {kvs : List (κ × D)} {k : κ} : valD (p :: kvs) k = if p.1 = k then some p.2 else valD kvs k := by
  unfold valD
  rw [List.find?_cons]
  by_cases h : p.1 = k
  · simp [h]
  · simp [h]
theorem any_val {kvs : List (κ × D)} {k : κ} : (kvs.any fun kv => decide (kv.1 = k)) = (valD kvs k).isSome := by
  induction kvs with
  | nil => rfl
  | cons p r ih =>
    rw [List.any_cons, valD_cons, ih]
    by_cases h : p.1 = k <;> simp [h]
theorem valD_put {kvs : List (κ × D)} {k j : κ} {d : D} : valD (putD kvs k d) j = if j = k then some d else valD kvs j := by
  unfold putD
  rw [any_val]
  split
  · rename_i hs
    induction kvs with
    | nil => simp [valD_nil] at hs
    | cons p r ih =>
      rw [List.map_cons, valD_cons]
      by_cases h : p.1 = k
      · simp only [h, if_true]
        by_cases hj : j = k
        · subst hj; simp
        · rw [if_neg (fun z => hj z.symm), if_neg hj, valD_cons, h, if_neg (fun z => hj z.symm)]
          clear ih hs
          induction r with
          | nil => rfl
          | cons p' r ih =>
            rw [List.map_cons, valD_cons, valD_cons, ih]
            by_cases h' : p'.1 = k
            · simp only [h', if_true]; rw [if_neg (fun z => hj z.symm), if_neg (fun z => hj z.symm)]
            · simp only [h', if_false]
      · rw [valD_cons, if_neg h] at hs
        simp only [h, if_false]
        rw [ih hs, valD_cons]
        by_cases hj : j = k
        · subst hj; rw [if_neg h]; simp
        · simp [hj]
  · rename_i hs
    have hn : valD kvs k = none := by simpa using hs
    clear hs
    induction kvs with
    | nil =>
      simp only [List.nil_append, valD_cons, valD_nil]
      by_cases hj : j = k
      · subst hj; simp
      · rw [if_neg (fun z => hj z.symm), if_neg hj]
    | cons p r ih =>
      rw [valD_cons] at hn
      by_cases h : p.1 = k
      · rw [if_pos h] at hn; cases hn
      · rw [if_neg h] at hn
        rw [List.cons_append, valD_cons, ih hn, valD_cons]
        by_cases hj : j = k
        · subst hj; rw [if_neg h]; simp
        · simp [hj]
theorem mem_put {kvs : List (κ × D)} {k : κ} {d : D} {p : κ × D} (h : p ∈ putD kvs k d) : p = (k, d) ∨ p ∈ kvs := by
  unfold putD at h
  split at h
  · obtain ⟨q, h1, h2⟩ := List.mem_map.mp h
    split at h2
    · rename_i e; exact .inl (by rw [← h2, e])
    · exact .inr (h2 ▸ h1)
  · rcases List.mem_append.mp h with h | h
    · exact .inr h
    · exact .inl (by simpa using h)
theorem len_put {kvs : List (κ × D)} {k : κ} {d : D} : (putD kvs k d).length ≤ kvs.length + 1 := by
  unfold putD
  split <;> simp
end
end DL

namespace DL
open PySem PySem.Spec PyProof.Rows L2
/-! ### common and made -/
theorem fmod_abs_lt {a b : Int} (h : b ≠ 0) : (a.fmod b).natAbs < b.natAbs := by
  rcases Int.lt_or_gt_of_ne h with hb | hb
  · have e : a.fmod b = -((-a).fmod (-b)) := by rw [Int.neg_fmod_neg]; omega
    have := fmod_pos (a := -a) (b := -b) (by omega)
    omega
  · have := fmod_pos (a := a) hb
    omega
theorem gcd_fmod (a b : Int) : Int.gcd b (a.fmod b) = Int.gcd a b := by
  rw [Int.fmod_def, Int.mul_comm, Int.gcd_sub_mul_right_right, Int.gcd_comm]
def commonC : List CS := [.while_ (.ccmp .NotEq (.var 1) (.con (.int 0))) [.par2 0 1 (.var 1) (.bin .Mod false (.var 0) (.var 1))],
  .ret (.bi .abs false [(.var 0)])]
def spCommon (ds : List D) (S : DStore) (Q : QE) : Prop := ∃ a b : Int, ds = [.int a, .int b] ∧ Q (.int (Int.gcd a b)) S
theorem spCommon_len : ∀ ds S Q, spCommon ds S Q → ds.length = 2 := by rintro _ _ _ ⟨_, _, rfl, _⟩; rfl
theorem abs_gcd (a : Int) : (if a < 0 then -a else a) = ((Int.gcd a 0 : Nat) : Int) := by
  rw [Int.gcd_zero_right]; split <;> omega
theorem common_ok {G : Fns} : ∀ ds S Q, spCommon ds S Q → wpSs G commonC (startD 2 ds) S { nx := fun _ S' => Q .non S', rt := Q } := by
  rintro ds S Q ⟨a, b, rfl, hQ⟩
  unfold commonC
  simp_arith only []
  refine ⟨fun k ρ S' => S' = S ∧ ∃ x y : Int, ρ = [some (.int x), some (.int y)] ∧ k = y.natAbs ∧ Int.gcd x y = Int.gcd a b, ⟨b.natAbs, rfl, a, b, rfl, rfl, rfl⟩, ?_⟩
  rintro k ρ S' ⟨rfl, x, y, rfl, rfl, hg⟩
  unfold whileTest DL.whileTurn
  simp_arith only []
  refine if_i (fun hy => ?_) fun hy => ?_
  · refine ⟨hy, _, fmod_abs_lt hy, by trivial, y, x.fmod y, rfl, rfl, ?_⟩
    rw [gcd_fmod]; exact hg
  · have hy0 : y = 0 := by
      by_cases h : y = 0
      · exact h
      · exact absurd h hy
    subst hy0
    (try simp_arith only [])
    rw [abs_gcd, hg]
    exact hQ
def madeC (j : Nat) : List CS := [.asg (.name 2) (.call j [(.var 0), (.var 1)]),
  .if_ (.ccmp .Lt (.var 1) (.con (.int 0))) [.asg (.name 2) (.neg (.var 2))] [],
  .ret (.tup [(.bin .FloorDiv false (.var 0) (.var 2)), (.bin .FloorDiv false (.var 1) (.var 2))])]
/-- the fraction of n by d, d above 0 -/
def spMade (ds : List D) (S : DStore) (Q : QE) : Prop := ∃ n d : Int, ds = [.int n, .int d] ∧ 0 < d ∧ d < 2 ^ 8000 ∧ Q (.tup [.int (n / (Int.gcd n d : Nat)), .int (d / (Int.gcd n d : Nat))]) S
theorem spMade_len : ∀ ds S Q, spMade ds S Q → ds.length = 2 := by rintro _ _ _ ⟨_, _, rfl, _⟩; rfl
theorem gcd_pos' {n d : Int} (h : 0 < d) : 0 < Int.gcd n d := Nat.pos_of_ne_zero fun z => by
  have := (Int.gcd_eq_zero_iff.mp z).2
  omega
theorem gcd_le' {n d : Int} (h : 0 < d) : ((Int.gcd n d : Nat) : Int) ≤ d := Int.le_of_dvd h (Int.gcd_dvd_right n d)
theorem div_ok8 {j : Int} (h0 : 0 < j) (h : j < 2 ^ 8000) : DivOk j := div_small (by omega) (pow_lt_9000 (k := 8000) (by
  have : (j.natAbs : Int) < ((2 ^ 8000 : Nat) : Int) := by
    rw [Int.natAbs_of_nonneg (by omega)]
    exact_mod_cast h
  exact_mod_cast this) (by decide))
theorem made_ok {G : Fns} {j : Nat} (hG : G.fn j = spCommon) : ∀ ds S Q, spMade ds S Q → wpSs G (madeC j) (startD 3 ds) S { nx := fun _ S' => Q .non S', rt := Q } := by
  rintro ds S Q ⟨n, d, rfl, h0, hb, hQ⟩
  unfold madeC
  simp_arith only [hG]
  refine ⟨n, d, rfl, ?_⟩
  have hp := gcd_pos' (n := n) h0
  have hl := gcd_le' (n := n) h0
  simp_arith only []
  rw [if_neg (by omega)]
  have hd : DivOk ((Int.gcd n d : Nat) : Int) := div_ok8 (by omega) (Int.lt_of_le_of_lt hl hb)
  refine ⟨hd, hd, ?_⟩
  rw [Int.fdiv_eq_ediv_of_nonneg _ (by omega), Int.fdiv_eq_ediv_of_nonneg _ (by omega)]
  exact hQ
/-! ### bounds of products -/
theorem mul_bd {a b A B : Int} (h1 : -A ≤ a) (h2 : a ≤ A) (h3 : -B ≤ b) (h4 : b ≤ B) : -(A * B) ≤ a * b ∧ a * b ≤ A * B := by
  have hA : 0 ≤ A := by omega
  have hB : 0 ≤ B := by omega
  have h5 : a.natAbs * b.natAbs ≤ A.natAbs * B.natAbs := Nat.mul_le_mul (by omega) (by omega)
  rw [← Int.natAbs_mul, ← Int.natAbs_mul] at h5
  have h6 : 0 ≤ A * B := Int.mul_nonneg hA hB
  omega
end DL

namespace DL
open PySem PySem.Spec PyProof.Rows L2
/-! ### the hand: parted, numbers, pushed, brought_in, wrapped -/
def hndD (a b f bits : Int) : D := .tup [.int a, .int b, .int f, .int bits]
def wshD (X V P : Int) : D := .tup [.int X, .int V, .int P]
def pw2 (f : Int) : Int := 2 ^ f.toNat
def smH (a b X V y y0 : Int) : Int := a * (y - X) + b * (y - y0 - V)
structure HOk (a b f bits : Int) : Prop where
  a1 : -1000000 ≤ a
  a2 : a ≤ 1000000
  b1 : -1000000 ≤ b
  b2 : b ≤ 1000000
  f1 : 0 ≤ f
  f2 : f ≤ 8
  k1 : 4 ≤ bits
  k2 : bits ≤ 40
def partedC : List CS := [.asg (.tup [(.name 4), (.name 5), (.name 6), (.name 7)]) (.var 0),
  .asg (.tup [(.name 8), (.name 9), (.name 10)]) (.var 1),
  .par2 11 12 (.bin .Sub false (.var 2) (.var 8)) (.bin .Sub false (.bin .Sub false (.var 2) (.var 3)) (.var 9)),
  .ret (.tup [(.var 11), (.var 12), (.bin .Mult false (.var 4) (.var 11)), (.bin .Mult false (.var 5) (.var 12)), (.bin .Add false (.bin .Mult false (.var 4) (.var 11)) (.bin .Mult false (.var 5) (.var 12)))])]
def numbersC (j : Nat) : List CS := [.asg (.name 4) (.call j [(.var 0), (.var 1), (.var 2), (.var 3)]),
  .asg (.name 5) (.bin .RShift false (.ix (.var 4) (.con (.int 4))) (.ix (.var 0) (.con (.int 2)))),
  .ret (.bin .Add false (.var 4) (.tup [(.var 5), (.bin .Sub false (.ix (.var 1) (.con (.int 2))) (.var 5))]))]
def pushedC (j : Nat) : List CS := [.ret (.ix (.call j [(.var 0), (.var 1), (.var 2), (.var 3)]) (.con (.int 6)))]
def broughtC : List CS := [.asg (.name 2) (.bin .LShift false (.con (.int 1)) (.bin .Sub false (.ix (.var 0) (.con (.int 3))) (.con (.int 1)))),
  .ret (.bin .Sub false (.bin .Mod false (.bin .Add false (.var 1) (.var 2)) (.bin .Mult false (.con (.int 2)) (.var 2))) (.var 2))]
def bro (bits x : Int) : Int := (x + pw2 (bits - 1)) % (2 * pw2 (bits - 1)) - pw2 (bits - 1)
def numsD (a b f X V P y y0 : Int) : List Int := [y - X, y - y0 - V, a * (y - X), b * (y - y0 - V), smH a b X V y y0, smH a b X V y y0 / pw2 f, P - smH a b X V y y0 / pw2 f]
def wrp (a b f bits X V P y y0 : Int) : Int := bro bits (P - bro bits (bro bits (bro bits (a * bro bits (y - X)) + bro bits (b * bro bits (y - y0 - V))) / pw2 f))
def spHd (R : (a b f bits X V P y y0 : Int) → D) (ds : List D) (S : DStore) (Q : QE) : Prop := ∃ a b f bits X V P y y0, ds = [hndD a b f bits, wshD X V P, .int y, .int y0] ∧ HOk a b f bits ∧ Q (R a b f bits X V P y y0) S
theorem spHd_len {R} : ∀ ds S Q, spHd R ds S Q → ds.length = 4 := by rintro _ _ _ ⟨_, _, _, _, _, _, _, _, _, rfl, _⟩; rfl
def spParted := spHd fun a b f bits X V P y y0 => .tup [.int (y - X), .int (y - y0 - V), .int (a * (y - X)), .int (b * (y - y0 - V)), .int (smH a b X V y y0)]
def spNumbers := spHd fun a b f bits X V P y y0 => .tup ((numsD a b f X V P y y0).map D.int)
def spPushed := spHd fun a b f bits X V P y y0 => .int (P - smH a b X V y y0 / pw2 f)
def spWrapped := spHd fun a b f bits X V P y y0 => .int (wrp a b f bits X V P y y0)
def spBrought (ds : List D) (S : DStore) (Q : QE) : Prop := ∃ a b f bits x, ds = [hndD a b f bits, .int x] ∧ 4 ≤ bits ∧ bits ≤ 40 ∧ Q (.int (bro bits x)) S
theorem spBrought_len : ∀ ds S Q, spBrought ds S Q → ds.length = 2 := by rintro _ _ _ ⟨_, _, _, _, _, rfl, _⟩; rfl
theorem pw2_pos (f : Int) : 1 ≤ pw2 f := by
  unfold pw2
  exact_mod_cast Nat.one_le_two_pow (n := f.toNat)
theorem pw2_le {f : Int} {k : Nat} (h : f ≤ k) : pw2 f ≤ 2 ^ k := by
  unfold pw2
  have : (2 : Nat) ^ f.toNat ≤ 2 ^ k := Nat.pow_le_pow_right (by decide) (by omega)
  exact_mod_cast this
theorem pw2_one (f : Int) : (1 : Int) * 2 ^ f.toNat = pw2 f := by unfold pw2; omega
theorem parted_ok {G : Fns} : ∀ ds S Q, spParted ds S Q → wpSs G partedC (startD 13 ds) S { nx := fun _ S' => Q .non S', rt := Q } := by
  rintro ds S Q ⟨a, b, f, bits, X, V, P, y, y0, rfl, h, hQ⟩
  have := h.a1; have := h.a2; have := h.b1; have := h.b2
  unfold partedC hndD wshD
  simp_arith only []
  have ma : ∀ z, MulOk a z := fun z => mul_small_left (by omega) (by omega)
  have mb : ∀ z, MulOk b z := fun z => mul_small_left (by omega) (by omega)
  exact ⟨by trivial, by trivial, ma _, mb _, ma _, mb _, hQ⟩
theorem numbers_ok {G : Fns} {j : Nat} (hG : G.fn j = spParted) : ∀ ds S Q, spNumbers ds S Q → wpSs G (numbersC j) (startD 6 ds) S { nx := fun _ S' => Q .non S', rt := Q } := by
  rintro ds S Q ⟨a, b, f, bits, X, V, P, y, y0, rfl, h, hQ⟩
  unfold numbersC
  simp_arith only [hG]
  refine ⟨a, b, f, bits, X, V, P, y, y0, rfl, h, ?_⟩
  unfold hndD wshD
  simp_arith only []
  exact ⟨h.f1, by decide, hQ⟩
theorem pushed_ok {G : Fns} {j : Nat} (hG : G.fn j = spNumbers) : ∀ ds S Q, spPushed ds S Q → wpSs G (pushedC j) (startD 4 ds) S { nx := fun _ S' => Q .non S', rt := Q } := by
  rintro ds S Q ⟨a, b, f, bits, X, V, P, y, y0, rfl, h, hQ⟩
  unfold pushedC
  simp_arith only [hG]
  refine ⟨a, b, f, bits, X, V, P, y, y0, rfl, h, ?_⟩
  unfold numsD
  simp_arith only []
  exact hQ
theorem brought_ok {G : Fns} : ∀ ds S Q, spBrought ds S Q → wpSs G broughtC (startD 3 ds) S { nx := fun _ S' => Q .non S', rt := Q } := by
  rintro ds S Q ⟨a, b, f, bits, x, rfl, h1, h2, hQ⟩
  unfold broughtC hndD
  have hp := pw2_pos (bits - 1)
  simp_arith only [pw2_one]
  refine ⟨cpow1 (by omega) (by omega), mul_small_left (by decide) (by decide), by omega, ?_⟩
  rw [Int.fmod_eq_emod_of_nonneg _ (by omega)]
  exact hQ
def wrappedC (j : Nat) : List CS := [.asg (.tup [(.name 9), (.name 10), (.name 11), (.name 12)]) (.var 0),
  .asg (.tup [(.name 13), (.name 14), (.name 15)]) (.var 1),
  .asg (.name 4) (.call j [(.var 0), (.bin .Sub false (.var 2) (.var 13))]),
  .asg (.name 5) (.call j [(.var 0), (.bin .Sub false (.bin .Sub false (.var 2) (.var 3)) (.var 14))]),
  .asg (.name 6) (.call j [(.var 0), (.bin .Mult false (.var 9) (.var 4))]),
  .asg (.name 7) (.call j [(.var 0), (.bin .Mult false (.var 10) (.var 5))]),
  .asg (.name 8) (.call j [(.var 0), (.bin .RShift false (.call j [(.var 0), (.bin .Add false (.var 6) (.var 7))]) (.var 11))]),
  .ret (.call j [(.var 0), (.bin .Sub false (.var 15) (.var 8))])]
theorem wrapped_ok {G : Fns} {j : Nat} (hG : G.fn j = spBrought) : ∀ ds S Q, spWrapped ds S Q → wpSs G (wrappedC j) (startD 16 ds) S { nx := fun _ S' => Q .non S', rt := Q } := by
  rintro ds S Q ⟨a, b, f, bits, X, V, P, y, y0, rfl, h, hQ⟩
  have := h.a1; have := h.a2; have := h.b1; have := h.b2; have := h.k1; have := h.k2
  have ma : ∀ z, MulOk a z := fun z => mul_small_left (by omega) (by omega)
  have mb : ∀ z, MulOk b z := fun z => mul_small_left (by omega) (by omega)
  unfold wrappedC hndD wshD
  simp_arith only [hG]
  refine ⟨by trivial, by trivial, a, b, f, bits, _, rfl, h.k1, h.k2, ?_⟩
  simp_arith only [hG]
  refine ⟨a, b, f, bits, _, rfl, h.k1, h.k2, ?_⟩
  simp_arith only [hG]
  refine ⟨ma _, a, b, f, bits, _, rfl, h.k1, h.k2, ?_⟩
  simp_arith only [hG]
  refine ⟨mb _, a, b, f, bits, _, rfl, h.k1, h.k2, ?_⟩
  simp_arith only [hG]
  refine ⟨a, b, f, bits, _, rfl, h.k1, h.k2, ?_⟩
  simp_arith only [hG]
  refine ⟨h.f1, a, b, f, bits, _, rfl, h.k1, h.k2, ?_⟩
  simp_arith only [hG]
  exact ⟨a, b, f, bits, _, rfl, h.k1, h.k2, hQ⟩
/-! ### about bro -/
theorem bro_bd (bits x : Int) : -pw2 (bits - 1) ≤ bro bits x ∧ bro bits x < pw2 (bits - 1) := by
  have hp := pw2_pos (bits - 1)
  have h1 := Int.emod_nonneg (x + pw2 (bits - 1)) (show 2 * pw2 (bits - 1) ≠ 0 by omega)
  have h2 := Int.emod_lt_of_pos (x + pw2 (bits - 1)) (show 0 < 2 * pw2 (bits - 1) by omega)
  unfold bro
  omega
theorem bro_fit {bits x : Int} (h1 : -pw2 (bits - 1) ≤ x) (h2 : x < pw2 (bits - 1)) : bro bits x = x := by
  unfold bro
  rw [Int.emod_eq_of_lt (by omega) (by omega)]; omega
/-- the same but for multiples of the stretch -/
def Cg (bits x y : Int) : Prop := ∃ k, x = y + k * (2 * pw2 (bits - 1))
theorem bro_cg {bits x y : Int} (h : Cg bits x y) : bro bits x = bro bits y := by
  obtain ⟨k, rfl⟩ := h
  unfold bro
  rw [show y + k * (2 * pw2 (bits - 1)) + pw2 (bits - 1) = (y + pw2 (bits - 1)) + k * (2 * pw2 (bits - 1)) by omega, Int.add_mul_emod_self_right]
theorem cg_bro (bits x : Int) : Cg bits (bro bits x) x := by
  refine ⟨-((x + pw2 (bits - 1)) / (2 * pw2 (bits - 1))), ?_⟩
  have := Int.emod_add_mul_ediv (x + pw2 (bits - 1)) (2 * pw2 (bits - 1))
  unfold bro
  rw [Int.neg_mul, Int.mul_comm ((x + pw2 (bits - 1)) / (2 * pw2 (bits - 1)))]
  omega
theorem Cg.refl (bits x : Int) : Cg bits x x := ⟨0, by omega⟩
theorem Cg.symm {bits x y : Int} (h : Cg bits x y) : Cg bits y x := by
  obtain ⟨k, rfl⟩ := h; exact ⟨-k, by rw [Int.neg_mul]; omega⟩
theorem Cg.trans {bits x y z : Int} (h : Cg bits x y) (h' : Cg bits y z) : Cg bits x z := by
  obtain ⟨k, rfl⟩ := h; obtain ⟨l, rfl⟩ := h'; exact ⟨k + l, by rw [Int.add_mul]; omega⟩
theorem Cg.add {bits x y u v : Int} (h : Cg bits x y) (h' : Cg bits u v) : Cg bits (x + u) (y + v) := by
  obtain ⟨k, rfl⟩ := h; obtain ⟨l, rfl⟩ := h'; exact ⟨k + l, by rw [Int.add_mul]; omega⟩
theorem Cg.sub {bits x y u v : Int} (h : Cg bits x y) (h' : Cg bits u v) : Cg bits (x - u) (y - v) := by
  obtain ⟨k, rfl⟩ := h; obtain ⟨l, rfl⟩ := h'; exact ⟨k - l, by rw [Int.sub_mul]; omega⟩
theorem Cg.mul {bits x y u v : Int} (h : Cg bits x y) (h' : Cg bits u v) : Cg bits (x * u) (y * v) := by
  obtain ⟨k, rfl⟩ := h; obtain ⟨l, rfl⟩ := h'
  exact ⟨k * v + y * l + k * l * (2 * pw2 (bits - 1)), by grind⟩
/-- the sum as wrapped -/
def mid (a b bits X V y y0 : Int) : Int := bro bits (bro bits (a * bro bits (y - X)) + bro bits (b * bro bits (y - y0 - V)))
theorem mid_eq (a b bits X V y y0 : Int) : mid a b bits X V y y0 = bro bits (smH a b X V y y0) := by
  unfold mid smH
  refine bro_cg (Cg.add ?_ ?_)
  · exact (cg_bro _ _).trans (Cg.mul (Cg.refl _ _) (cg_bro _ _))
  · exact (cg_bro _ _).trans (Cg.mul (Cg.refl _ _) (cg_bro _ _))
theorem wrp_eq (a b f bits X V P y y0 : Int) : wrp a b f bits X V P y y0 = bro bits (P - bro bits (bro bits (smH a b X V y y0) / pw2 f)) := by
  rw [← mid_eq]; rfl
/-- what is asked of a push hangs on its parts but for multiples -/
theorem wrp_cg {a b f bits X V P y y0 a' b' X' V' P' y' y0' : Int} (h1 : Cg bits a a') (h2 : Cg bits b b') (h3 : Cg bits X X') (h4 : Cg bits V V') (h5 : Cg bits P P') (h6 : Cg bits y y') (h7 : Cg bits y0 y0') :
    wrp a b f bits X V P y y0 = wrp a' b' f bits X' V' P' y' y0' := by
  rw [wrp_eq, wrp_eq]
  have e : bro bits (smH a b X V y y0) = bro bits (smH a' b' X' V' y' y0') := bro_cg ((Cg.mul h1 (h6.sub h3)).add (Cg.mul h2 ((h6.sub h7).sub h4)))
  rw [e]
  exact bro_cg (h5.sub (Cg.refl _ _))
theorem wrp_fit {a b f bits X V P y y0 : Int} (h1 : -pw2 (bits - 1) ≤ smH a b X V y y0 ∧ smH a b X V y y0 < pw2 (bits - 1)) (h2 : -pw2 (bits - 1) ≤ smH a b X V y y0 / pw2 f ∧ smH a b X V y y0 / pw2 f < pw2 (bits - 1))
    (h3 : -pw2 (bits - 1) ≤ P - smH a b X V y y0 / pw2 f ∧ P - smH a b X V y y0 / pw2 f < pw2 (bits - 1)) : wrp a b f bits X V P y y0 = P - smH a b X V y y0 / pw2 f := by
  rw [wrp_eq, bro_fit h1.1 h1.2, bro_fit h2.1 h2.2, bro_fit h3.1 h3.2]
theorem pw2_succ {bits : Int} (h : 1 ≤ bits) : pw2 bits = 2 * pw2 (bits - 1) := by
  unfold pw2
  have : bits.toNat = (bits - 1).toNat + 1 := by omega
  rw [this, Int.pow_succ]; omega
theorem x_sl {m : Bool} {S : DStore} {xs : List D} {lo hi : Option Int} {Q : QE} : slD m S (.tup xs) lo hi Q = Q (.tup (cutD xs lo hi)) S := rfl
/-! ### lists of one thing -/
theorem gather_const {xs : List D} {v : D} {I : DStore → Prop} {S : DStore} {turn : D → DStore → (Option D → DStore → Prop) → Prop} {Q : List D → DStore → Prop} (hl : xs.length ≤ sizeLine) (hI : I S)
    (hs : ∀ x ∈ xs, ∀ N : Option D → DStore → Prop, N (some v) S → turn x S N) (hQ : Q (List.replicate xs.length v) S) : wpGather xs I S turn Q := by
  have := gather_map (xs := xs) (fun x => x) (fun _ => v) (I := I) (S := S) (turn := turn) (Q := Q) hl hI hs (by rw [List.map_const']; exact hQ)
  rwa [List.map_id'] at this
theorem purs_rep {d : D} {p : PyData} (h : pur d = some p) : ∀ n, purs (List.replicate n d) = some (List.replicate n p)
  | 0 => rfl
  | n + 1 => by rw [List.replicate_succ, List.replicate_succ, purs, h, purs_rep h n]; rfl
theorem lay_rep {p : PyData} (h : p.canLay0 = true) : ∀ n, PyData.canLayAll0 (List.replicate n p) = true
  | 0 => rfl
  | n + 1 => by rw [List.replicate_succ, PyData.canLayAll0, h, lay_rep h n]; rfl
theorem depth_rep (p : PyData) : ∀ n, PyData.depthAll (List.replicate n p) ≤ p.depth
  | 0 => Nat.zero_le _
  | n + 1 => by
    rw [List.replicate_succ, PyData.depthAll]
    exact Nat.max_le.mpr ⟨Nat.le_refl _, depth_rep p n⟩
theorem flat_rep {α : Type} (x : α) : ∀ n, (List.replicate n [x]).flatten = List.replicate n x
  | 0 => rfl
  | n + 1 => by rw [List.replicate_succ, List.flatten_cons, flat_rep x n]; rfl
end DL

namespace DL
open PySem PySem.Spec PyProof.Rows L2
/-! ### texts of wide numbers -/
mutual
/-- all numbers of at most 500 digits -/
def okW : PyData → Bool
  | .none => true
  | .bool _ => true
  | .int i => decide (i.natAbs < 10 ^ 500)
  | .str x => decide ((reprText x).length ≤ 1000)
  | .list xs => okWs xs
  | .tuple xs => okWs xs
  | .dict _ => false
def okWs : List PyData → Bool
  | [] => true
  | x :: xs => okW x && okWs xs
def szW : PyData → Nat
  | .none => 8
  | .bool _ => 8
  | .int _ => 504
  | .str _ => 1000
  | .list xs => szWs xs + 8
  | .tuple xs => szWs xs + 8
  | .dict _ => 0
def szWs : List PyData → Nat
  | [] => 0
  | x :: xs => szW x + 2 + szWs xs
end
theorem log2_wide {i : Int} (h : i.natAbs < 10 ^ 500) : i.natAbs.log2 < 1920 := by
  have h40 : i.natAbs < 2 ^ 1900 := Nat.lt_of_lt_of_le h (by decide +kernel)
  have := PySem.Flt.log2_lt_of (by decide) h40
  omega
theorem shown_wide {i : Int} (h : i.natAbs < 10 ^ 500) : (PyData.shown (.int i)).length ≤ 504 := by
  have e := int_text_length_le10 (k := 500) (by decide) h
  show (Str.ofString (toString i)).length ≤ 504
  rw [PySem.ofString_length]; omega
mutual
theorem szW_ok : ∀ p : PyData, okW p = true → p.showable = true ∧ p.hasDict = false ∧ p.shown.length ≤ szW p
  | .none, h => ⟨rfl, rfl, by decide⟩
  | .bool b, h => ⟨rfl, rfl, by cases b <;> decide⟩
  | .int i, h => by
    simp only [okW, decide_eq_true_eq] at h
    exact ⟨by simp [PyData.showable, log2_wide h], rfl, shown_wide h⟩
  | .str x, h => by simp only [okW, decide_eq_true_eq] at h; exact ⟨rfl, rfl, h⟩
  | .list xs, h => by
    simp only [okW] at h
    obtain ⟨a, b, d⟩ := szWs_ok xs h
    refine ⟨a, b, ?_⟩
    have := listText_len_le (PyData.shownAll xs)
    show (listText (PyData.shownAll xs)).length ≤ szWs xs + 8
    omega
  | .tuple xs, h => by
    simp only [okW] at h
    obtain ⟨a, b, d⟩ := szWs_ok xs h
    refine ⟨a, b, ?_⟩
    have := tupleText_len_le (PyData.shownAll xs)
    show (tupleText (PyData.shownAll xs)).length ≤ szWs xs + 8
    omega
  | .dict _, h => by simp [okW] at h
theorem szWs_ok : ∀ xs : List PyData, okWs xs = true → PyData.showableAll xs = true ∧ PyData.hasDictAll xs = false ∧ ((PyData.shownAll xs).map (·.length)).sum + 2 * (PyData.shownAll xs).length ≤ szWs xs
  | [], h => ⟨rfl, rfl, by simp [PyData.shownAll]⟩
  | x :: xs, h => by
    simp only [okWs, Bool.and_eq_true] at h
    obtain ⟨a, b, d⟩ := szW_ok x h.1
    obtain ⟨a', b', d'⟩ := szWs_ok xs h.2
    refine ⟨by simp [PyData.showableAll, a, a'], by simp [PyData.hasDictAll, b, b'], ?_⟩
    simp only [PyData.shownAll, List.map_cons, List.sum_cons, List.length_cons, szWs]
    omega
end
theorem reprW {S : DStore} {m : Bool} {d : D} {p : PyData} {Q : QE} (e : purS S d = some p) (h : okW p = true) (hs : szW p ≤ 16000000) (hd : p.depth ≤ 50) (q : Q (.str p.shown) S) : biD .repr1 m [d] S Q := by
  obtain ⟨a, b, c⟩ := szW_ok p h
  exact ⟨p, e, ⟨a, hd, b, Nat.le_trans c (Nat.le_trans hs (by decide))⟩, q⟩
theorem wide_of {i : Int} {k : Nat} (h : i.natAbs < 2 ^ k) (hk : k ≤ 1600) : i.natAbs < 10 ^ 500 :=
  Nat.lt_of_lt_of_le h (Nat.le_trans (Nat.pow_le_pow_right (by decide) hk) (by decide +kernel))
/-! ### fractions -/
/-- a fraction in lowest terms -/
def frD (q : Rat) : D := .tup [.int q.num, .int q.den]
theorem fr_made {n d : Int} (h : 0 < d) : D.tup [.int (n / (Int.gcd n d : Nat)), .int (d / (Int.gcd n d : Nat))] = frD ((n : Rat) / (d : Rat)) := by
  obtain ⟨k, rfl⟩ := Int.eq_ofNat_of_zero_le (Int.le_of_lt h)
  have hk : k ≠ 0 := by omega
  have e : ((n : Rat) / ((k : Int) : Rat)) = Rat.normalize n k hk := by
    rw [Rat.normalize_eq_mkRat, Rat.mkRat_eq_div]; rfl
  rw [e, Rat.normalize_eq]
  unfold frD
  simp [Int.gcd]
theorem rat_self (q : Rat) : ((q.num : Rat) / ((q.den : Int) : Rat)) = q := by
  have := Rat.mkRat_self q
  rw [Rat.mkRat_eq_div] at this
  exact this
theorem den_pos (q : Rat) : (0 : Int) < q.den := by have := q.den_nz; omega
theorem den_ne (q : Rat) : ((q.den : Int) : Rat) ≠ 0 := by
  have := den_pos q
  intro z
  have : (q.den : Int) = 0 := by exact_mod_cast z
  omega
/-- numerator and denominator of less than k bits -/
structure Rk (k : Nat) (q : Rat) : Prop where
  n : q.num.natAbs < 2 ^ k
  d : q.den < 2 ^ k
theorem Rk.mono {k l : Nat} {q : Rat} (h : Rk k q) (hl : k ≤ l) : Rk l q := ⟨Nat.lt_of_lt_of_le h.n (Nat.pow_le_pow_right (by decide) hl), Nat.lt_of_lt_of_le h.d (Nat.pow_le_pow_right (by decide) hl)⟩
theorem rk_div {n d : Int} {k : Nat} (h : 0 < d) (hn : n.natAbs < 2 ^ k) (hd : d.natAbs < 2 ^ k) : Rk k ((n : Rat) / (d : Rat)) := by
  obtain ⟨j, rfl⟩ := Int.eq_ofNat_of_zero_le (Int.le_of_lt h)
  have hk : j ≠ 0 := by omega
  have e : ((n : Rat) / ((j : Int) : Rat)) = Rat.normalize n j hk := by
    rw [Rat.normalize_eq_mkRat, Rat.mkRat_eq_div]; rfl
  rw [e, Rat.normalize_eq]
  constructor
  · show (n / _).natAbs < _
    refine Nat.lt_of_le_of_lt ?_ hn
    exact Int.natAbs_ediv_le_natAbs n _
  · show j / _ < _
    exact Nat.lt_of_le_of_lt (Nat.div_le_self _ _) (by simpa using hd)
theorem rk_int {n : Int} {k : Nat} (hn : n.natAbs < 2 ^ k) (hk : 0 < k) : Rk k (n : Rat) := ⟨by simpa using hn, by
  show (1 : Nat) < 2 ^ k
  exact Nat.one_lt_two_pow (by omega)⟩
theorem natAbs_mul_lt {a b : Int} {k l : Nat} (h1 : a.natAbs < 2 ^ k) (h2 : b.natAbs < 2 ^ l) : (a * b).natAbs < 2 ^ (k + l) := by
  rw [Int.natAbs_mul, Nat.pow_add]
  exact Nat.mul_lt_mul'' h1 h2
theorem natAbs_add_lt {a b : Int} {k : Nat} (h1 : a.natAbs < 2 ^ k) (h2 : b.natAbs < 2 ^ k) : (a + b).natAbs < 2 ^ (k + 1) := by
  have := Int.natAbs_add_le a b
  rw [Nat.pow_succ]; omega
theorem plus_num (p q : Rat) : (((p.num * q.den + q.num * p.den : Int) : Rat) / ((p.den * q.den : Int) : Rat)) = p + q := by
  have h1 := rat_self p
  have h2 := rat_self q
  have e1 := den_ne p
  have e2 := den_ne q
  simp only [Rat.intCast_add, Rat.intCast_mul]
  generalize ((p.den : Int) : Rat) = a at *
  generalize ((q.den : Int) : Rat) = b at *
  generalize ((p.num : Int) : Rat) = n at *
  generalize ((q.num : Int) : Rat) = m at *
  rw [← h1, ← h2]
  grind
theorem mul_wide {i j : Int} {a b : Nat} (ha : i.natAbs < 2 ^ a) (hb : j.natAbs < 2 ^ b) (h0 : 0 < a) (h1 : 0 < b) (h : a + b ≤ 1000000) : MulOk i j := .inr (wide_mul ha hb h0 h1 h)
def plusC (j : Nat) : List CS := [.ret (.call j [(.bin .Add false (.bin .Mult false (.ix (.var 0) (.con (.int 0))) (.ix (.var 1) (.con (.int 1)))) (.bin .Mult false (.ix (.var 1) (.con (.int 0))) (.ix (.var 0) (.con (.int 1))))), (.bin .Mult false (.ix (.var 0) (.con (.int 1))) (.ix (.var 1) (.con (.int 1))))])]
def spPlus (ds : List D) (S : DStore) (Q : QE) : Prop := ∃ p q : Rat, ds = [frD p, frD q] ∧ Rk 3900 p ∧ Rk 3900 q ∧ Q (frD (p + q)) S
theorem spPlus_len : ∀ ds S Q, spPlus ds S Q → ds.length = 2 := by rintro _ _ _ ⟨_, _, rfl, _⟩; rfl
theorem lt_8000 {x : Int} {k : Nat} (h0 : 0 < x) (h : x.natAbs < 2 ^ k) (hk : k ≤ 8000) : x < 2 ^ 8000 := by
  have h1 : x.natAbs < 2 ^ 8000 := Nat.lt_of_lt_of_le h (Nat.pow_le_pow_right (by decide) hk)
  have h2 : (x.natAbs : Int) < ((2 ^ 8000 : Nat) : Int) := by exact_mod_cast h1
  rw [Int.natAbs_of_nonneg (by omega)] at h2
  exact_mod_cast h2
theorem plus_ok {G : Fns} {j : Nat} (hG : G.fn j = spMade) : ∀ ds S Q, spPlus ds S Q → wpSs G (plusC j) (startD 2 ds) S { nx := fun _ S' => Q .non S', rt := Q } := by
  rintro ds S Q ⟨p, q, rfl, hp, hq, hQ⟩
  unfold plusC frD
  simp_arith only [hG]
  have hd1 : ((p.den : Int)).natAbs < 2 ^ 3900 := by simpa using hp.d
  have hd2 : ((q.den : Int)).natAbs < 2 ^ 3900 := by simpa using hq.d
  have m1 : ∀ a b : Int, a.natAbs < 2 ^ 3900 → b.natAbs < 2 ^ 3900 → MulOk a b := fun a b h1 h2 => mul_wide h1 h2 (by decide) (by decide) (by decide)
  have hpos : (0 : Int) < p.den * q.den := Int.mul_pos (den_pos p) (den_pos q)
  refine ⟨m1 _ _ hp.n hd2, m1 _ _ hq.n hd1, m1 _ _ hd1 hd2, _, _, rfl, hpos, lt_8000 hpos (natAbs_mul_lt hd1 hd2) (by decide), ?_⟩
  rw [fr_made hpos, plus_num]
  exact hQ
end DL

namespace DL
open PySem PySem.Spec PyProof.Rows L2
/-! ### fractions, more -/
theorem fr_int (n : Int) : D.tup [.int n, .int 1] = frD (n : Rat) := rfl
theorem fr_neg (q : Rat) : D.tup [.int (-q.num), .int q.den] = frD (-q) := rfl
theorem x_fr0 {S : DStore} {q : Rat} {QD : D → Prop} : ixD S (frD q) (.int 0) QD = QD (.int q.num) := by unfold frD; rw [x_tup, a_0, ex_some]
theorem x_fr1 {S : DStore} {q : Rat} {QD : D → Prop} : ixD S (frD q) (.int 1) QD = QD (.int q.den) := by unfold frD; rw [x_tup, a_1, ex_some]
theorem rk_neg {k : Nat} {q : Rat} (h : Rk k q) : Rk k (-q) := ⟨by show (-q.num).natAbs < _; rw [Int.natAbs_neg]; exact h.n, h.d⟩
theorem rk_add {k l : Nat} {p q : Rat} (h : Rk k p) (h' : Rk l q) : Rk (k + l + 1) (p + q) := by
  rw [← plus_num]
  have hp : ((p.den : Int)).natAbs < 2 ^ k := by simpa using h.d
  have hq : ((q.den : Int)).natAbs < 2 ^ l := by simpa using h'.d
  refine rk_div (Int.mul_pos (den_pos p) (den_pos q)) (natAbs_add_lt (natAbs_mul_lt h.n hq) ?_) ?_
  · rw [Nat.add_comm]; exact natAbs_mul_lt h'.n hp
  · exact Nat.lt_of_lt_of_le (natAbs_mul_lt hp hq) (Nat.pow_le_pow_right (by decide) (by omega))
theorem mulI_num (a : Int) (q : Rat) : (((a * q.num : Int) : Rat) / ((q.den : Int) : Rat)) = (a : Rat) * q := by
  have h1 := rat_self q
  have e1 := den_ne q
  simp only [Rat.intCast_mul]
  generalize ((q.den : Int) : Rat) = b at *
  generalize ((q.num : Int) : Rat) = m at *
  rw [← h1]
  grind
theorem rk_mulI {a : Int} {j k : Nat} {q : Rat} (ha : a.natAbs < 2 ^ j) (h : Rk k q) : Rk (j + k) ((a : Rat) * q) := by
  rw [← mulI_num]
  exact rk_div (den_pos q) (natAbs_mul_lt ha h.n) (Nat.lt_of_lt_of_le (by simpa using h.d) (Nat.pow_le_pow_right (by decide) (by omega)))
theorem madeF {n d : Int} {k : Nat} {S : DStore} {Q : QE} (h : 0 < d) (hb : d.natAbs < 2 ^ k) (hk : k ≤ 8000) (hQ : Q (frD ((n : Rat) / (d : Rat))) S) : spMade [.int n, .int d] S Q :=
  ⟨n, d, rfl, h, lt_8000 h hb hk, by rw [fr_made h]; exact hQ⟩
theorem plusF {p q : Rat} {k l : Nat} {S : DStore} {Q : QE} (hp : Rk k p) (hq : Rk l q) (hk : k ≤ 3900) (hl : l ≤ 3900) (hQ : Q (frD (p + q)) S) : spPlus [frD p, frD q] S Q :=
  ⟨p, q, rfl, hp.mono hk, hq.mono hl, hQ⟩
/-! ### wishes -/
def pcW (gs : List Int) (t : Int) : Int := if 0 < t then gI gs t - gI gs (t - 1) else 0
def ltW (gs : List Int) (t : Int) : Int := if t + 1 < gs.length then gI gs (t + 1) - gI gs t else 0
theorem W_bd {gs : List Int} {B : Int} (hB : 0 ≤ B) (h : ∀ x ∈ gs, -B ≤ x ∧ x ≤ B) (t : Int) : (-(2 * B) ≤ pcW gs t ∧ pcW gs t ≤ 2 * B) ∧ (-(2 * B) ≤ ltW gs t ∧ ltW gs t ≤ 2 * B) := by
  have h1 := gI_bd hB h t
  have h2 := gI_bd hB h (t - 1)
  have h3 := gI_bd hB h (t + 1)
  unfold pcW ltW
  constructor <;> split <;> omega
/-- the row with its ends twice -/
def rowW (gs : List Int) : List Int := gI gs 0 :: (gs ++ [gI gs (gs.length - 1)])
theorem row_len (gs : List Int) : (rowW gs).length = gs.length + 2 := by simp [rowW]
theorem row_mid {gs : List Int} {t : Int} (h0 : 0 ≤ t) (h1 : t < gs.length) : gI (rowW gs) (t + 1) = gI gs t := by
  unfold gI rowW
  rw [show (t + 1).toNat = t.toNat + 1 by omega, List.getD_cons_succ, List.getD_eq_getElem?_getD, List.getElem?_append_left (by omega), List.getD_eq_getElem?_getD]
theorem row_lo {gs : List Int} {t : Int} (h0 : 0 ≤ t) (h1 : t < gs.length) : gI (rowW gs) t = if 0 < t then gI gs (t - 1) else gI gs 0 := by
  split
  · have := row_mid (gs := gs) (t := t - 1) (by omega) (by omega)
    rw [← this]; congr 1; omega
  · have : t = 0 := by omega
    subst this; rfl
theorem row_hi {gs : List Int} {t : Int} (h0 : 0 ≤ t) (h1 : t < gs.length) : gI (rowW gs) (t + 2) = if t + 1 < gs.length then gI gs (t + 1) else gI gs t := by
  split
  · have := row_mid (gs := gs) (t := t + 1) (by omega) (by omega)
    rw [← this]; congr 1; omega
  · have e : (t + 2).toNat = (gs.length + 1) := by omega
    unfold gI rowW
    rw [e, List.getD_cons_succ, List.getD_eq_getElem?_getD, List.getElem?_append_right (by omega)]
    have : t.toNat = ((gs.length : Int) - 1).toNat := by omega
    simp [gI, this]
def spW (ds : List D) (S : DStore) (Q : QE) : Prop := ∃ (gs : List Int) (t : Int), ds = [.tup (gs.map D.int), .int t] ∧ 0 ≤ t ∧ t < gs.length ∧ gs.length ≤ 100 ∧ Q (wshD (gI gs t) (pcW gs t) (ltW gs t - pcW gs t)) S
theorem spW_len : ∀ ds S Q, spW ds S Q → ds.length = 2 := by rintro _ _ _ ⟨_, _, rfl, _⟩; rfl
def wishAtC : List CS := [.asg (.name 2) (.ite (.ccmp .Gt (.var 1) (.con (.int 0))) (.bin .Sub false (.ix (.var 0) (.var 1)) (.ix (.var 0) (.bin .Sub false (.var 1) (.con (.int 1))))) (.con (.int 0))),
  .asg (.name 3) (.ite (.ccmp .Lt (.bin .Add false (.var 1) (.con (.int 1))) (.bi .len false [(.var 0)])) (.bin .Sub false (.ix (.var 0) (.bin .Add false (.var 1) (.con (.int 1)))) (.ix (.var 0) (.var 1))) (.con (.int 0))),
  .ret (.tup [(.ix (.var 0) (.var 1)), (.var 2), (.bin .Sub false (.var 3) (.var 2))])]
theorem wishAt_ok {G : Fns} : ∀ ds S Q, spW ds S Q → wpSs G wishAtC (startD 4 ds) S { nx := fun _ S' => Q .non S', rt := Q } := by
  rintro ds S Q ⟨gs, t, rfl, h0, h1, hl, hQ⟩
  unfold wishAtC
  have e0 := at_g h0 h1
  simp_arith only [e0, List.length_map]
  refine if_i (fun hp => ?_) fun hp => ?_
  · have e1 := at_g (gs := gs) (i := t - 1) (by omega) (by omega)
    (try simp_arith only [e1, List.length_map])
    refine if_i (fun hq => ?_) fun hq => ?_
    · have e2 := at_g (gs := gs) (i := t + 1) (by omega) (by omega)
      (try simp_arith only [e2, e0])
      rw [pcW, ltW, if_pos hp, if_pos hq] at hQ; exact hQ
    · (try simp_arith only [e0])
      rw [pcW, ltW, if_pos hp, if_neg hq] at hQ; exact hQ
  · (try simp_arith only [List.length_map])
    refine if_i (fun hq => ?_) fun hq => ?_
    · have e2 := at_g (gs := gs) (i := t + 1) (by omega) (by omega)
      (try simp_arith only [e2, e0])
      rw [pcW, ltW, if_neg hp, if_pos hq] at hQ; exact hQ
    · (try simp_arith only [e0])
      rw [pcW, ltW, if_neg hp, if_neg hq] at hQ; exact hQ
/-- the law's own wish -/
def wishLC : List CS := [.asg (.name 2) (.bin .Add false (.bin .Add false (.tup [(.ix (.var 0) (.con (.int 0)))]) (.var 0)) (.tup [(.ix (.var 0) (.neg (.con (.int 1))))])),
  .asg (.name 3) (.bin .Sub false (.ix (.var 2) (.bin .Add false (.var 1) (.con (.int 1)))) (.ix (.var 2) (.var 1))),
  .ret (.tup [(.ix (.var 0) (.var 1)), (.var 3), (.bin .Sub false (.bin .Sub false (.ix (.var 2) (.bin .Add false (.var 1) (.con (.int 2)))) (.ix (.var 2) (.bin .Add false (.var 1) (.con (.int 1))))) (.var 3))])]
theorem wishL_ok {G : Fns} : ∀ ds S Q, spW ds S Q → wpSs G wishLC (startD 4 ds) S { nx := fun _ S' => Q .non S', rt := Q } := by
  rintro ds S Q ⟨gs, t, rfl, h0, h1, hl, hQ⟩
  unfold wishLC
  have e0 := at_g h0 h1
  have e1 := at_g (gs := gs) (i := 0) (by omega) (by omega)
  have e2 := at_m1 (gs := gs) (by omega)
  have er : (D.int (gI gs 0) :: (gs.map D.int ++ [D.int (gI gs (gs.length - 1))])) = (rowW gs).map D.int := by simp [rowW]
  have hr := row_len gs
  have r0 := at_g (gs := rowW gs) (i := t) (by omega) (by omega)
  have r1 := at_g (gs := rowW gs) (i := t + 1) (by omega) (by omega)
  have r2 := at_g (gs := rowW gs) (i := t + 2) (by omega) (by omega)
  simp_arith only [e0, e1, e2, er, r0, r1, r2, List.length_map]
  have hz : (200 : Nat) ≤ sizeLine := by decide
  refine ⟨by omega, by omega, ?_⟩
  rw [row_mid h0 h1, row_lo h0 h1, row_hi h0 h1]
  have x1 : (gI gs t - if 0 < t then gI gs (t - 1) else gI gs 0) = pcW gs t := by
    unfold pcW
    split
    · rfl
    · have : t = 0 := by omega
      subst this; omega
  have x2 : ((if t + 1 < (gs.length : Int) then gI gs (t + 1) else gI gs t) - gI gs t) = ltW gs t := by
    unfold ltW
    split
    · rfl
    · omega
  rw [x1, x2]
  exact hQ
/-! ### the exact push -/
def exq (a b f X V P : Int) (y y0 : Rat) : Rat := (P : Rat) + -((a : Rat) * (y + -(X : Rat)) + (b : Rat) * (y + -y0 + -(V : Rat))) / (pw2 f : Rat)
def exactPC (jp jm : Nat) : List CS := [.asg (.tup [(.name 7), (.name 8), (.name 9), (.name 10)]) (.var 0),
  .asg (.tup [(.name 11), (.name 12), (.name 13)]) (.var 1),
  .asg (.name 4) (.call jp [(.var 2), (.tup [(.neg (.var 11)), (.con (.int 1))])]),
  .asg (.name 5) (.call jp [(.call jp [(.var 2), (.tup [(.neg (.ix (.var 3) (.con (.int 0)))), (.ix (.var 3) (.con (.int 1)))])]), (.tup [(.neg (.var 12)), (.con (.int 1))])]),
  .asg (.name 6) (.call jp [(.call jm [(.bin .Mult false (.var 7) (.ix (.var 4) (.con (.int 0)))), (.ix (.var 4) (.con (.int 1)))]), (.call jm [(.bin .Mult false (.var 8) (.ix (.var 5) (.con (.int 0)))), (.ix (.var 5) (.con (.int 1)))])]),
  .ret (.call jp [(.tup [(.var 13), (.con (.int 1))]), (.call jm [(.neg (.ix (.var 6) (.con (.int 0)))), (.bin .LShift false (.ix (.var 6) (.con (.int 1))) (.var 9))])])]
structure WOk (X V P : Int) : Prop where
  x : X.natAbs < 2 ^ 60
  v : V.natAbs < 2 ^ 60
  p : P.natAbs < 2 ^ 60
def spEP (ds : List D) (S : DStore) (Q : QE) : Prop := ∃ a b f bits X V P y y0, ds = [hndD a b f bits, wshD X V P, frD y, frD y0] ∧ HOk a b f bits ∧ WOk X V P ∧ Rk 700 y ∧ Rk 700 y0 ∧ (Rk 3000 (exq a b f X V P y y0) → Q (frD (exq a b f X V P y y0)) S)
theorem spEP_len : ∀ ds S Q, spEP ds S Q → ds.length = 4 := by rintro _ _ _ ⟨_, _, _, _, _, _, _, _, _, rfl, _⟩; rfl
theorem pw2_rat (q : Rat) (f : Int) : (((-q.num : Int) : Rat) / ((q.den * pw2 f : Int) : Rat)) = -q / (pw2 f : Rat) := by
  have h1 := rat_self q
  have e1 := den_ne q
  have e2 : (pw2 f : Rat) ≠ 0 := by
    have := pw2_pos f
    intro z
    have : pw2 f = 0 := by exact_mod_cast z
    omega
  simp only [Rat.intCast_mul, Rat.intCast_neg]
  generalize ((q.den : Int) : Rat) = b at *
  generalize ((q.num : Int) : Rat) = m at *
  generalize ((pw2 f : Int) : Rat) = c at *
  rw [← h1]
  grind
theorem exactP_ok {G : Fns} {jp jm : Nat} (hp : G.fn jp = spPlus) (hm : G.fn jm = spMade) : ∀ ds S Q, spEP ds S Q → wpSs G (exactPC jp jm) (startD 14 ds) S { nx := fun _ S' => Q .non S', rt := Q } := by
  rintro ds S Q ⟨a, b, f, bits, X, V, P, y, y0, rfl, h, w, ry, ry0, hQ⟩
  have := h.a1; have := h.a2; have := h.b1; have := h.b2; have := h.f1; have := h.f2
  unfold exactPC hndD wshD
  simp_arith only [hp, hm, fr_int, x_fr0, x_fr1, fr_neg]
  have rX : Rk 60 ((-X : Int) : Rat) := rk_int (by rw [Int.natAbs_neg]; exact w.x) (by decide)
  have rV : Rk 60 ((-V : Int) : Rat) := rk_int (by rw [Int.natAbs_neg]; exact w.v) (by decide)
  have rP : Rk 60 (P : Rat) := rk_int w.p (by decide)
  have r1 := rk_add ry rX
  have r2 := rk_add ry (rk_neg ry0)
  have r3 := rk_add r2 rV
  have ha : a.natAbs < 2 ^ 20 := by omega
  have hb : b.natAbs < 2 ^ 20 := by omega
  refine ⟨by trivial, by trivial, plusF ry rX (by decide) (by decide) ?_⟩
  (try simp_arith only [hp, hm, fr_int, x_fr0, x_fr1, fr_neg])
  refine plusF ry (rk_neg ry0) (by decide) (by decide) ?_
  (try simp_arith only [hp, hm, fr_int, x_fr0, x_fr1, fr_neg])
  refine plusF r2 rV (by decide) (by decide) ?_
  (try simp_arith only [hp, hm, fr_int, x_fr0, x_fr1, fr_neg])
  refine ⟨mul_small_left (by omega) (by omega), madeF (den_pos _) (show _ < 2 ^ 3000 from Nat.lt_of_lt_of_le (by simpa using r1.d) (Nat.pow_le_pow_right (by decide) (by decide))) (by decide) ?_⟩
  rw [mulI_num]
  (try simp_arith only [hp, hm, fr_int, x_fr0, x_fr1, fr_neg])
  refine ⟨mul_small_left (by omega) (by omega), madeF (den_pos _) (show _ < 2 ^ 3000 from Nat.lt_of_lt_of_le (by simpa using r3.d) (Nat.pow_le_pow_right (by decide) (by decide))) (by decide) ?_⟩
  rw [mulI_num]
  (try simp_arith only [hp, hm, fr_int, x_fr0, x_fr1, fr_neg])
  have r4 := rk_mulI ha r1
  have r5 := rk_mulI hb r3
  have r6 := rk_add r4 r5
  refine plusF r4 r5 (by decide) (by decide) ?_
  have e1 : ((-X : Int) : Rat) = -(X : Rat) := Rat.intCast_neg X
  have e2 : ((-V : Int) : Rat) = -(V : Rat) := Rat.intCast_neg V
  rw [e1, e2] at r6 ⊢
  generalize hpt : (a : Rat) * (y + -(X : Rat)) + (b : Rat) * (y + -y0 + -(V : Rat)) = pt at *
  (try simp_arith only [hp, hm, fr_int, x_fr0, x_fr1, fr_neg])
  have hd : ((pt.den : Int)).natAbs < 2 ^ 2300 := Nat.lt_of_lt_of_le (by simpa using r6.d) (Nat.pow_le_pow_right (by decide) (by decide))
  have hpw := pw2_pos f
  have hpw2 := pw2_le (f := f) (k := 8) (by omega)
  have hpw3 : (pw2 f).natAbs < 2 ^ 9 := by omega
  have hpos : (0 : Int) < pt.den * pw2 f := Int.mul_pos (den_pos pt) (by omega)
  have hdm := natAbs_mul_lt hd hpw3
  have ef : (2 : Int) ^ f.toNat = pw2 f := rfl
  rw [ef]
  refine ⟨⟨h.f1, ?_⟩, madeF hpos hdm (by decide) ?_⟩
  · have hb : Builtin.Int.intBits (pt.den : Int) ≤ (pt.den : Int).natAbs.log2 + 1 := by
      unfold Builtin.Int.intBits
      split <;> omega
    have hl := PySem.Flt.log2_lt_of (by decide) hd
    omega
  rw [pw2_rat]
  have r7 : Rk 2309 (-pt / (pw2 f : Rat)) := by
    rw [← pw2_rat]
    exact rk_div hpos (Nat.lt_of_lt_of_le (by rw [Int.natAbs_neg]; exact r6.n) (Nat.pow_le_pow_right (by decide) (by decide))) hdm
  refine plusF rP r7 (by decide) (by decide) ?_
  have r8 := (rk_add rP r7).mono (show 60 + 2309 + 1 ≤ 3000 by decide)
  unfold exq at hQ
  rw [hpt] at hQ
  exact hQ r8
/-! ### led -/
structure LRow where
  l : Rat
  s : Rat
  m : Rat
  z : Rat
def LRow.D (r : LRow) : DL.D := .tup [frD r.l, frD r.s, frD r.m, frD r.z]
structure LSt where
  x : Rat
  v : Rat
  y0 : Rat
section
variable (a b f : Int) (gs : List Int)
def ledU (t : Nat) (s : LSt) (r : LRow) : Rat := exq a b f (gI gs t) (pcW gs t) (ltW gs t - pcW gs t) (s.x + r.m) s.y0 + r.z
def ledV (t : Nat) (s : LSt) (r : LRow) : Rat := s.v + ledU a b f gs t s r + r.l
def ledN (t : Nat) (s : LSt) (r : LRow) : LSt := ⟨s.x + ledV a b f gs t s r + r.s, ledV a b f gs t s r, s.x + r.m⟩
def ledRow (t : Nat) (s : LSt) (r : LRow) : D := .tup [frD s.x, frD s.v, frD (s.x + r.m), frD (ledU a b f gs t s r)]
def ledRows : Nat → LSt → List LRow → List D
  | _, _, [] => []
  | t, s, r :: rs => ledRow a b f gs t s r :: ledRows (t + 1) (ledN a b f gs t s r) rs
def ledEnd : Nat → LSt → List LRow → LSt
  | _, s, [] => s
  | t, s, r :: rs => ledEnd (t + 1) (ledN a b f gs t s r) rs
def LedOk : Nat → LSt → List LRow → Prop
  | _, _, [] => True
  | t, s, r :: rs => Rk 700 s.x ∧ Rk 700 s.v ∧ Rk 700 s.y0 ∧ Rk 700 (s.x + r.m) ∧ Rk 700 r.l ∧ Rk 700 r.s ∧ Rk 700 r.m ∧ Rk 700 r.z ∧ Rk 700 (ledU a b f gs t s r) ∧ Rk 700 (s.v + ledU a b f gs t s r) ∧ Rk 700 (ledV a b f gs t s r) ∧ Rk 700 (s.x + ledV a b f gs t s r) ∧ LedOk (t + 1) (ledN a b f gs t s r) rs
end
def ledS0 (gs : List Int) : LSt := ⟨(gI gs 0 : Rat), 0, (gI gs 0 : Rat)⟩
def ledOut (a b f : Int) (gs : List Int) (rs : List LRow) : D := .tup (ledRows a b f gs 0 (ledS0 gs) rs ++ [.tup [frD (ledEnd a b f gs 0 (ledS0 gs) rs).x, frD (ledEnd a b f gs 0 (ledS0 gs) rs).v]])
def spLed (ds : List D) (S : DStore) (Q : QE) : Prop := ∃ a b f bits gs rs, ds = [hndD a b f bits, .tup (gs.map D.int), .tup (rs.map LRow.D)] ∧ HOk a b f bits ∧ 0 < gs.length ∧ gs.length ≤ 100 ∧ rs.length ≤ gs.length ∧ (∀ x ∈ gs, -1000000000 ≤ x ∧ x ≤ 1000000000) ∧ LedOk a b f gs 0 (ledS0 gs) rs ∧
  ∀ S', (∀ (n : Nat) (c : Cell), S[n]? = some c → S'[n]? = some c) → Q (ledOut a b f gs rs) S'
theorem spLed_len : ∀ ds S Q, spLed ds S Q → ds.length = 3 := by rintro _ _ _ ⟨_, _, _, _, _, _, rfl, _⟩; rfl
def ledC (jp jw je : Nat) : List CS := [.par3 4 5 6 (.tup [(.ix (.var 1) (.con (.int 0))), (.con (.int 1))]) (.tup [(.con (.int 0)), (.con (.int 1))]) (.tup [(.ix (.var 1) (.con (.int 0))), (.con (.int 1))]),
  .asg (.name 3) (.lst true []),
  .for_ (.tup [(.name 7), (.tup [(.name 10), (.name 11), (.name 12), (.name 13)])]) (.enum (.var 2)) [.asg (.name 8) (.call jp [(.var 4), (.var 12)]),
    .asg (.name 9) (.call jp [(.call je [(.var 0), (.call jw [(.var 1), (.var 7)]), (.var 8), (.var 6)]), (.var 13)]),
    .append (.var 3) (.tup [(.var 4), (.var 5), (.var 8), (.var 9)]),
    .asg (.name 5) (.call jp [(.call jp [(.var 5), (.var 9)]), (.var 10)]),
    .par2 4 6 (.call jp [(.call jp [(.var 4), (.var 5)]), (.var 11)]) (.var 8)],
  .ret (.bi .tuple1 false [(.bin .Add false (.var 3) (.lst false [(.tup [(.var 4), (.var 5)])]))])]
theorem led_ok {G : Fns} {jp jw je : Nat} (hp : G.fn jp = spPlus) (hw : G.fn jw = spW) (he : G.fn je = spEP) : ∀ ds S Q, spLed ds S Q → wpSs G (ledC jp jw je) (startD 14 ds) S { nx := fun _ S' => Q .non S', rt := Q } := by
  rintro ds S Q ⟨a, b, f, bits, gs, rs, rfl, h, hg0, hg1, hrl, hgs, hok, hQ⟩
  unfold ledC
  have e0 := at_g (gs := gs) (i := 0) (by decide) (by omega)
  simp_arith only [e0, fr_int]
  have hz : (1000 : Nat) ≤ sizeLine := by decide
  refine walk_list (fun i ρ S' => ∃ (s : LSt) (acc : List D) (r7 r8 r9 r10 r11 r12 r13 : Option D), ρ = [some (hndD a b f bits), some (.tup (gs.map D.int)), some (.tup (rs.map LRow.D)), some (.ref S.length), some (frD s.x), some (frD s.v), some (frD s.y0), r7, r8, r9, r10, r11, r12, r13] ∧
      S'[S.length]? = some (.lst acc) ∧ (∀ (n : Nat) (c : Cell), S[n]? = some c → S'[n]? = some c) ∧ acc.length = i ∧ ledRows a b f gs 0 (ledS0 gs) rs = acc ++ ledRows a b f gs i s (rs.drop i) ∧ ledEnd a b f gs 0 (ledS0 gs) rs = ledEnd a b f gs i s (rs.drop i) ∧ LedOk a b f gs i s (rs.drop i))
    ⟨ledS0 gs, [], none, none, none, none, none, none, none, rfl, by simp, fun n c hn => by rw [List.getElem?_append_left (List.getElem?_eq_some_iff.mp hn).1]; exact hn, rfl, rfl, rfl, hok⟩ (fun _ _ _ _ => trivial) (fun i x ρ S' hx hP => ?_) (fun ρ S' hP => ?_)
  · obtain ⟨s, acc, r7, r8, r9, r10, r11, r12, r13, rfl, hq, hS, hl, hr, hend, hk⟩ := hP
    have hi : i < rs.length := by
      have := (List.getElem?_eq_some_iff.mp hx).1
      rw [enum_len, List.length_map] at this; exact this
    have hxe : x = .tup [.int i, (rs[i]).D] := by
      rw [enum_get (x := (rs[i]).D) (by rw [List.getElem?_map, List.getElem?_eq_getElem hi]; rfl)] at hx
      exact (Option.some.inj hx).symm
    subst hxe
    rw [List.drop_eq_getElem_cons hi] at hr hend hk
    generalize hrr : rs[i] = r at *
    simp only [ledRows, ledEnd, LedOk] at hr hend hk
    obtain ⟨kx, kv, ky0, ky, kl, ks, km, kz, ku, k1, k2, k3, kr⟩ := hk
    unfold DL.forTurn LRow.D
    (try simp_arith only [hp])
    refine ⟨by trivial, by trivial, plusF kx km (by decide) (by decide) ?_⟩
    (try simp_arith only [hw])
    have bg := gI_bd (B := 1000000000) (by decide) hgs i
    have bw := W_bd (B := 1000000000) (by decide) hgs i
    refine ⟨gs, i, rfl, by omega, by omega, hg1, ?_⟩
    (try simp_arith only [he])
    refine ⟨a, b, f, bits, _, _, _, s.x + r.m, s.y0, rfl, h, ⟨by omega, by omega, by omega⟩, ky, ky0, fun ke => ?_⟩
    (try simp_arith only [hp])
    refine plusF ke kz (by decide) (by decide) ?_
    (try simp_arith only [])
    refine ⟨lat hq, acc, hq, by omega, ?_⟩
    (try simp_arith only [hp])
    refine plusF kv ku (by decide) (by decide) ?_
    (try simp_arith only [hp])
    refine plusF k1 kl (by decide) (by decide) ?_
    (try simp_arith only [hp])
    refine plusF kx k2 (by decide) (by decide) ?_
    (try simp_arith only [hp])
    refine plusF k3 ks (by decide) (by decide) ?_
    (try simp_arith only [])
    refine ⟨ledN a b f gs i s r, acc ++ [ledRow a b f gs i s r], _, _, _, _, _, _, _, rfl, set_get hq, fun n c hn => ?_, by simp [hl], by rw [hr]; simp, hend, kr⟩
    have hne : n ≠ S.length := Nat.ne_of_lt (List.getElem?_eq_some_iff.mp hn).1
    rw [List.getElem?_set_ne (Ne.symm hne)]
    exact hS n c hn
  · obtain ⟨s, acc, r7, r8, r9, r10, r11, r12, r13, rfl, hq, hS, hl, hr, hend, hk⟩ := hP
    rw [enum_len, List.length_map] at hl hr hend
    rw [List.drop_length] at hr hend
    simp only [ledRows, ledEnd, List.append_nil] at hr hend
    (try simp_arith only [])
    refine o_addRL hq (by simp; omega) ?_
    (try simp_arith only [])
    have := hQ S' hS
    unfold ledOut at this
    rw [hr, hend] at this
    exact this
end DL

namespace DL
open PySem PySem.Spec PyProof.Rows L2
/-! ### the settings of the laws of hands -/
def gainC (jt jp : Nat) : List CS := [.asg (.name 1) (.call jp [(.var 0), (.lst false [(.con (.int 1)), (.con (.int 2)), (.con (.int 2)), (.con (.int 3)), (.con (.int 4)), (.con (.int 8))])]),
  .asg (.name 2) (.bin .LShift false (.con (.int 1)) (.var 1)),
  .if_ (.ccmp .Eq (.call jt [(.var 0), (.con (.int 8))]) (.con (.int 0))) [.ret (.tup [(.bin .Sub false (.call jt [(.var 0), (.con (.int 9))]) (.con (.int 4))), (.bin .Sub false (.call jt [(.var 0), (.con (.int 9))]) (.con (.int 4))), (.call jt [(.var 0), (.con (.int 9))]), (.bin .Add false (.con (.int 8)) (.call jt [(.var 0), (.con (.int 9))]))])] [],
  .asg (.name 3) (.bin .Add false (.con (.int 1)) (.call jt [(.var 0), (.bi .max2 false [(.con (.int 1)), (.bin .FloorDiv false (.var 2) (.con (.int 2)))])])),
  .asg (.name 4) (.bin .Add false (.bin .FloorDiv false (.var 2) (.con (.int 2))) (.call jt [(.var 0), (.bin .Add false (.bin .FloorDiv false (.var 2) (.con (.int 2))) (.con (.int 1)))])),
  .ret (.tup [(.var 3), (.var 4), (.var 1), (.bin .Add false (.call jp [(.var 0), (.lst false [(.con (.int 10)), (.con (.int 12)), (.con (.int 16)), (.con (.int 24)), (.con (.int 32))])]) (.var 1))])]
structure HB (a b f bits : Int) : Prop where
  h : HOk a b f bits
  a1 : -4096 ≤ a
  a2 : a ≤ 4096
  b1 : -4096 ≤ b
  b2 : b ≤ 4096
def spGain (ds : List D) (S : DStore) (Q : QE) : Prop := ∃ n T, ds = [.ref n] ∧ Pot n T S ∧ T < 10000000 ∧ ∀ (a b f bits : Int) S', HB a b f bits → Pot n (T + 6) S' → Fr n S S' → Q (hndD a b f bits) S'
theorem spGain_len : ∀ ds S Q, spGain ds S Q → ds.length = 1 := by rintro _ _ _ ⟨_, _, rfl, _⟩; rfl
theorem gain_ok {G : Fns} {jt jp : Nat} (ht : G.fn jt = spTake) (hp : G.fn jp = spPick) : ∀ ds S Q, spGain ds S Q → wpSs G (gainC jt jp) (startD 5 ds) S { nx := fun _ S' => Q .non S', rt := Q } := by
  rintro ds S Q ⟨n, T, rfl, hP, hT, hQ⟩
  have hB : Fr n S S := .refl
  unfold gainC
  simp_arith only [hp]
  refine DL.pickI (lo := 1) (hi := 8) hP (by omega) (by simp only [DL.allI, and_true]; omega) fun f S _ _ hP hF _ => ?_; replace hB := hB.trans hF; clear hF
  have h1 := pw2_pos f
  have h2 := pw2_le (f := f) (k := 8) (by omega)
  (try simp_arith only [ht, pw2_one])
  (repeat (refine And.intro (by first | omega | exact DL.mul_small_left (by omega) (by omega) | exact DL.mul_small_right (by omega) (by omega) | exact DL.div_om (by omega) (by omega) (by omega) | exact DL.cpow1 (by omega) (by omega) | exact ⟨by omega, by omega⟩ | exact DL.len_le (by (try simp only [List.length_map, List.length_append, List.length_cons, List.length_nil]); omega) | exact DL.len_lt (by (try simp only [List.length_map, List.length_append, List.length_cons, List.length_nil]); omega) | trivial | decide) ?_))
  refine DL.takeP hP (by omega) (by omega) (by omega) fun v1 S _ _ hP hF _ => ?_; replace hB := hB.trans hF; clear hF
  (try simp_arith only [])
  refine if_i (fun _ => ?_) fun _ => ?_
  · (try simp_arith only [ht])
    refine DL.takeP hP (by omega) (by omega) (by omega) fun x1 S _ _ hP hF _ => ?_; replace hB := hB.trans hF; clear hF
    (try simp_arith only [ht])
    refine DL.takeP hP (by omega) (by omega) (by omega) fun x2 S _ _ hP hF _ => ?_; replace hB := hB.trans hF; clear hF
    (try simp_arith only [ht])
    refine DL.takeP hP (by omega) (by omega) (by omega) fun x3 S _ _ hP hF _ => ?_; replace hB := hB.trans hF; clear hF
    (try simp_arith only [ht])
    refine DL.takeP hP (by omega) (by omega) (by omega) fun x4 S _ _ hP hF _ => ?_; replace hB := hB.trans hF; clear hF
    (try simp_arith only [])
    exact hQ _ _ _ _ _ ⟨⟨by omega, by omega, by omega, by omega, by omega, by omega, by omega, by omega⟩, by omega, by omega, by omega, by omega⟩ (hP.mono (by omega)) hB
  · (try simp_arith only [ht])
    rw [fdiv_e (by decide)]
    have hm : 0 < (if pw2 f / 2 > 1 then pw2 f / 2 else 1) ∧ (if pw2 f / 2 > 1 then pw2 f / 2 else 1) ≤ 128 := by split <;> omega
    (repeat (refine And.intro (by first | omega | exact DL.mul_small_left (by omega) (by omega) | exact DL.mul_small_right (by omega) (by omega) | exact DL.div_om (by omega) (by omega) (by omega) | exact DL.cpow1 (by omega) (by omega) | exact ⟨by omega, by omega⟩ | exact DL.len_le (by (try simp only [List.length_map, List.length_append, List.length_cons, List.length_nil]); omega) | exact DL.len_lt (by (try simp only [List.length_map, List.length_append, List.length_cons, List.length_nil]); omega) | trivial | decide) ?_))
    refine DL.takeP hP (by omega) (by omega) (by omega) fun x1 S _ _ hP hF _ => ?_; replace hB := hB.trans hF; clear hF
    (try simp_arith only [ht])
    (repeat (refine And.intro (by first | omega | exact DL.mul_small_left (by omega) (by omega) | exact DL.mul_small_right (by omega) (by omega) | exact DL.div_om (by omega) (by omega) (by omega) | exact DL.cpow1 (by omega) (by omega) | exact ⟨by omega, by omega⟩ | exact DL.len_le (by (try simp only [List.length_map, List.length_append, List.length_cons, List.length_nil]); omega) | exact DL.len_lt (by (try simp only [List.length_map, List.length_append, List.length_cons, List.length_nil]); omega) | trivial | decide) ?_))
    refine DL.takeP hP (by omega) (by omega) (by omega) fun x2 S _ _ hP hF _ => ?_; replace hB := hB.trans hF; clear hF
    (try simp_arith only [hp])
    refine DL.pickI (lo := 10) (hi := 32) hP (by omega) (by simp only [DL.allI, and_true]; omega) fun bt S _ _ hP hF _ => ?_; replace hB := hB.trans hF; clear hF
    (try simp_arith only [])
    exact hQ _ _ _ _ _ ⟨⟨by omega, by omega, by omega, by omega, by omega, by omega, by omega, by omega⟩, by omega, by omega, by omega, by omega⟩ (hP.mono (by omega)) hB
def lmadeC (jc : Nat) : List CS := [.asg (.name 2) (.call jc [(.var 0), (.var 1)]),
  .ret (.tup [(.bin .FloorDiv false (.var 0) (.var 2)), (.bin .FloorDiv false (.var 1) (.var 2))])]
theorem lmade_ok {G : Fns} {j : Nat} (hG : G.fn j = spCommon) : ∀ ds S Q, spMade ds S Q → wpSs G (lmadeC j) (startD 3 ds) S { nx := fun _ S' => Q .non S', rt := Q } := by
  rintro ds S Q ⟨n, d, rfl, h0, hb, hQ⟩
  unfold lmadeC
  simp_arith only [hG]
  refine ⟨n, d, rfl, ?_⟩
  have hp := gcd_pos' (n := n) h0
  have hl := gcd_le' (n := n) h0
  simp_arith only []
  have hd : DivOk ((Int.gcd n d : Nat) : Int) := div_ok8 (by omega) (Int.lt_of_le_of_lt hl hb)
  refine ⟨hd, hd, ?_⟩
  rw [Int.fdiv_eq_ediv_of_nonneg _ (by omega), Int.fdiv_eq_ediv_of_nonneg _ (by omega)]
  exact hQ
def wishesC (jt jp : Nat) : List CS := [.asg (.name 2) (.bin .Sub false (.call jt [(.var 0), (.con (.int 41))]) (.con (.int 20))),
  .par2 4 5 (.lst true [(.var 2)]) (.call jp [(.var 0), (.lst false [(.con (.int 1)), (.con (.int 3)), (.con (.int 9))])]),
  .for_ (.name 3) (.range1 (.bin .Add false (.con (.int 1)) (.call jt [(.var 0), (.var 1)]))) [.asg (.name 2) (.bin .Sub false (.bin .Add false (.var 2) (.call jt [(.var 0), (.bin .Add false (.bin .Mult false (.con (.int 2)) (.var 5)) (.con (.int 1)))])) (.var 5)),
    .append (.var 4) (.var 2)],
  .ret (.bi .tuple1 false [(.var 4)])]
def spWishes (ds : List D) (S : DStore) (Q : QE) : Prop := ∃ n T peak, ds = [.ref n, .int peak] ∧ Pot n T S ∧ T < 10000000 ∧ 0 < peak ∧ peak ≤ 60 ∧ ∀ (gs : List Int) S', 2 ≤ gs.length → (gs.length : Int) ≤ peak + 1 → (∀ x ∈ gs, -600 ≤ x ∧ x ≤ 600) → Pot n (T + 70) S' → Fr n S S' → Q (.tup (gs.map D.int)) S'
theorem spWishes_len : ∀ ds S Q, spWishes ds S Q → ds.length = 2 := by rintro _ _ _ ⟨_, _, _, rfl, _⟩; rfl
theorem wishes_ok {G : Fns} {jt jp : Nat} (ht : G.fn jt = spTake) (hp : G.fn jp = spPick) : ∀ ds S Q, spWishes ds S Q → wpSs G (wishesC jt jp) (startD 6 ds) S { nx := fun _ S' => Q .non S', rt := Q } := by
  rintro ds S0 Q ⟨n, T, peak, rfl, hP, hT, h0, h60, hQ⟩
  have hB : Fr n S0 S0 := .refl
  unfold wishesC
  simp_arith only [ht]
  refine DL.takeP hP (by omega) (by omega) (by omega) fun v1 S _ _ hP hF _ => ?_; replace hB := hB.trans hF; clear hF
  (try simp_arith only [hp])
  have hqn : S.length ≠ n := by have := hP.lt; omega
  have hq : (S ++ [Cell.lst [.int (v1 - 20)]])[S.length]? = some (.lst [.int (v1 - 20)]) := by simp
  have hSq : S0.length ≤ S.length := hB.len
  replace hB := hB.trans (Fr.app (cs := [Cell.lst [.int (v1 - 20)]]))
  replace hP := hP.app (cs := [Cell.lst [.int (v1 - 20)]])
  generalize S.length = q at *
  generalize S ++ [Cell.lst [.int (v1 - 20)]] = S at *
  refine DL.pickI (lo := 1) (hi := 9) hP (by omega) (by simp only [DL.allI, and_true]; omega) fun far S _ _ hP hF _ => ?_; replace hB := hB.trans hF; replace hq := hF.get hqn hq; clear hF
  (try simp_arith only [ht])
  refine DL.takeP hP (by omega) (by omega) (by omega) fun v2 S _ _ hP hF _ => ?_; replace hB := hB.trans hF; replace hq := hF.get hqn hq; clear hF
  (try simp_arith only [])
  (repeat (refine And.intro (by first | omega | exact DL.mul_small_left (by omega) (by omega) | exact DL.mul_small_right (by omega) (by omega) | exact DL.div_om (by omega) (by omega) (by omega) | exact DL.cpow1 (by omega) (by omega) | exact ⟨by omega, by omega⟩ | exact DL.len_le (by (try simp only [List.length_map, List.length_append, List.length_cons, List.length_nil]); omega) | exact DL.len_lt (by (try simp only [List.length_map, List.length_append, List.length_cons, List.length_nil]); omega) | trivial | decide) ?_))
  refine walk_range (fun i ρ S' => (i : Int) ≤ 1 + v2 ∧ ∃ (at' : Int) (gs : List Int) (r3 : Option D), ρ = [some (.ref n), some (.int peak), some (.int at'), r3, some (.ref q), some (.int far)] ∧ Pot n (T + 3 + i) S' ∧ Fr n S0 S' ∧ S'[q]? = some (.lst (gs.map D.int)) ∧ gs.length = i + 1 ∧ -(20 + 9 * (i : Int)) ≤ at' ∧ at' ≤ 20 + 9 * (i : Int) ∧ ∀ x ∈ gs, -600 ≤ x ∧ x ≤ 600)
    ⟨by omega, v1 - 20, [v1 - 20], none, rfl, hP.mono (by omega), hB, hq, rfl, by omega, by omega, fun x hx => by rw [List.mem_singleton.mp hx]; omega⟩ (fun _ _ _ _ => trivial) (fun i ρ S' hi hp => ?_) (fun ρ S' hp => ?_)
  · obtain ⟨hi9, at', gs, r3, rfl, hP, hB, hq, hl, ha1, ha2, hg⟩ := hp
    unfold DL.forTurn
    (try simp_arith only [ht])
    (repeat (refine And.intro (by first | omega | exact DL.mul_small_left (by omega) (by omega) | exact DL.mul_small_right (by omega) (by omega) | exact DL.div_om (by omega) (by omega) (by omega) | exact DL.cpow1 (by omega) (by omega) | exact ⟨by omega, by omega⟩ | exact DL.len_le (by (try simp only [List.length_map, List.length_append, List.length_cons, List.length_nil]); omega) | exact DL.len_lt (by (try simp only [List.length_map, List.length_append, List.length_cons, List.length_nil]); omega) | trivial | decide) ?_))
    refine DL.takeP hP (by omega) (by omega) (by omega) fun v3 S _ _ hP hF _ => ?_; replace hB := hB.trans hF; replace hq := hF.get hqn hq; clear hF
    (try simp_arith only [])
    refine ⟨lat hq, _, hq, len_lt (by rw [List.length_map]; omega), by omega, _, gs ++ [at' + v3 - far], _, rfl, (hP.set hqn).mono (by omega), hB.set hSq, ?_, by simp [hl], by omega, by omega, ?_⟩
    · rw [set_get hq, List.map_append]; rfl
    · intro x hx
      rcases List.mem_append.mp hx with hx | hx
      · exact hg x hx
      · rw [List.mem_singleton.mp hx]; omega
  · obtain ⟨hi9, at', gs, r3, rfl, hP, hB, hq, hl, ha1, ha2, hg⟩ := hp
    (try simp_arith only [hq])
    exact hQ gs S' (by omega) (by omega) hg (hP.mono (by omega)) hB
/-! ### a hand, a rule, wishes -/
theorem min1_2 {a b : Int} {m : Bool} {S : DStore} {Q : QE} (h : ∀ k, (k = a ∨ k = b) → k ≤ a → k ≤ b → Q (.int k) S) : biD .min1 m [.tup [.int a, .int b]] S Q := by
  rcases Int.le_total a b with e | e
  · exact ⟨_, [a, b], a, rfl, rfl, by simp, by simp [e], h a (.inl rfl) (Int.le_refl _) e⟩
  · exact ⟨_, [a, b], b, rfl, rfl, by simp, by simp [e], h b (.inr rfl) e (Int.le_refl _)⟩
def settingC (jt jg jw : Nat) : List CS := [.asg (.name 2) (.tup [(.call jt [(.var 0), (.con (.int 4))]), (.call jt [(.var 0), (.con (.int 3))]), (.call jt [(.var 0), (.con (.int 3))])]),
  .par2 4 5 (.call jg [(.var 0)]) (.call jw [(.var 0), (.var 1)]),
  .asg (.name 3) (.call jt [(.var 0), (.con (.int 12))]),
  .if_ (.ccmp .Eq (.var 3) (.con (.int 11))) [.asg (.name 2) (.tup [(.call jt [(.var 0), (.con (.int 1001))]), (.call jt [(.var 0), (.con (.int 1001))]), (.call jt [(.var 0), (.con (.int 40))])])] [],
  .if_ (.ccmp .Eq (.var 3) (.con (.int 10))) [.asg (.name 4) (.bin .Add false (.tup [(.bin .Sub false (.call jt [(.var 0), (.con (.int 8193))]) (.con (.int 4096))), (.bin .Sub false (.call jt [(.var 0), (.con (.int 8193))]) (.con (.int 4096))), (.con (.int 8))]) (.sl false (.var 4) (.yes (.con (.int 3))) .no))] [],
  .if_ (.cor (.ccmp .Lt (.bi .min1 false [(.sl false (.var 4) .no (.yes (.con (.int 2))))]) (.con (.int 0))) (.ccmp .Gt (.bin .Mult false (.con (.int 2)) (.bin .Add false (.ix (.var 4) (.con (.int 0))) (.ix (.var 4) (.con (.int 1))))) (.bin .LShift false (.con (.int 3)) (.ix (.var 4) (.con (.int 2)))))) [.asg (.name 5) (.sl false (.var 5) .no (.yes (.con (.int 3))))] [],
  .ret (.tup [(.var 4), (.var 2), (.var 5)])]
structure LB (l s q : Int) : Prop where
  l0 : 0 ≤ l
  l1 : l ≤ 1000
  s0 : 0 ≤ s
  s1 : s ≤ 1000
  q0 : 0 ≤ q
  q1 : q ≤ 1000
def letsD (l s q : Int) : D := .tup [.int l, .int s, .int q]
structure GsOk (n : Int) (gs : List Int) : Prop where
  two : 2 ≤ gs.length
  most : (gs.length : Int) ≤ n
  bd : ∀ x ∈ gs, -600 ≤ x ∧ x ≤ 600
def spSetting (ds : List D) (S : DStore) (Q : QE) : Prop := ∃ n T peak, ds = [.ref n, .int peak] ∧ Pot n T S ∧ T < 1000000 ∧ 0 < peak ∧ peak ≤ 60 ∧ ∀ (a b f bits l s q : Int) (gs : List Int) S', HB a b f bits → LB l s q → GsOk (peak + 1) gs → Pot n (T + 90) S' → Fr n S S' → Q (.tup [hndD a b f bits, letsD l s q, .tup (gs.map D.int)]) S'
theorem spSetting_len : ∀ ds S Q, spSetting ds S Q → ds.length = 2 := by rintro _ _ _ ⟨_, _, _, rfl, _⟩; rfl
theorem setting_ok {G : Fns} {jt jg jw : Nat} (ht : G.fn jt = spTake) (hg : G.fn jg = spGain) (hw : G.fn jw = spWishes) : ∀ ds S Q, spSetting ds S Q → wpSs G (settingC jt jg jw) (startD 6 ds) S { nx := fun _ S' => Q .non S', rt := Q } := by
  rintro ds S0 Q ⟨n, T, peak, rfl, hP, hT, h0, h60, hQ⟩
  have hB : Fr n S0 S0 := .refl
  unfold settingC
  refine ss_split 4 (fun ρ S => ∃ (a b f bits l s q wh : Int) (gs : List Int), ρ = [some (.ref n), some (.int peak), some (letsD l s q), some (.int wh), some (hndD a b f bits), some (.tup (gs.map D.int))] ∧ HB a b f bits ∧ LB l s q ∧ GsOk (peak + 1) gs ∧ Pot n (T + 83) S ∧ Fr n S0 S) (fun N hN => ?_) ?_
  · simp_arith only [ht]
    refine DL.takeP hP (by omega) (by omega) (by omega) fun l S _ _ hP hF _ => ?_; replace hB := hB.trans hF; clear hF
    (try simp_arith only [ht])
    refine DL.takeP hP (by omega) (by omega) (by omega) fun s S _ _ hP hF _ => ?_; replace hB := hB.trans hF; clear hF
    (try simp_arith only [ht])
    refine DL.takeP hP (by omega) (by omega) (by omega) fun q S _ _ hP hF _ => ?_; replace hB := hB.trans hF; clear hF
    (try simp_arith only [hg])
    refine ⟨n, _, rfl, hP, by omega, fun a b f bits S hh hP hF => ?_⟩
    replace hB := hB.trans hF
    (try simp_arith only [hw])
    refine ⟨n, _, peak, rfl, hP, by omega, h0, h60, fun gs S hg1 hg2 hg3 hP hF => ?_⟩
    replace hB := hB.trans hF
    (try simp_arith only [ht])
    refine DL.takeP hP (by omega) (by omega) (by omega) fun wh S _ _ hP hF _ => ?_; replace hB := hB.trans hF; clear hF
    (try simp_arith only [])
    refine if_i (fun _ => ?_) fun _ => ?_
    · (try simp_arith only [ht])
      refine DL.takeP hP (by omega) (by omega) (by omega) fun l2 S _ _ hP hF _ => ?_; replace hB := hB.trans hF; clear hF
      (try simp_arith only [ht])
      refine DL.takeP hP (by omega) (by omega) (by omega) fun s2 S _ _ hP hF _ => ?_; replace hB := hB.trans hF; clear hF
      (try simp_arith only [ht])
      refine DL.takeP hP (by omega) (by omega) (by omega) fun q2 S _ _ hP hF _ => ?_; replace hB := hB.trans hF; clear hF
      (try simp_arith only [])
      exact hN _ _ ⟨a, b, f, bits, l2, s2, q2, wh, gs, rfl, hh, ⟨by omega, by omega, by omega, by omega, by omega, by omega⟩, ⟨hg1, hg2, hg3⟩, hP.mono (by omega), hB⟩
    · exact hN _ _ ⟨a, b, f, bits, l, s, q, wh, gs, rfl, hh, ⟨by omega, by omega, by omega, by omega, by omega, by omega⟩, ⟨hg1, hg2, hg3⟩, hP.mono (by omega), hB⟩
  rintro ρ S ⟨a, b, f, bits, l, s, q, wh, gs, rfl, hh, hl, hgs, hP, hB⟩
  refine ss_split 1 (fun ρ S => ∃ (a b f bits : Int), ρ = [some (.ref n), some (.int peak), some (letsD l s q), some (.int wh), some (hndD a b f bits), some (.tup (gs.map D.int))] ∧ HB a b f bits ∧ Pot n (T + 85) S ∧ Fr n S0 S) (fun N hN => ?_) ?_
  · unfold hndD
    (try simp_arith only [ht])
    refine if_i (fun _ => ?_) fun _ => ?_
    · (try simp_arith only [ht])
      refine DL.takeP hP (by omega) (by omega) (by omega) fun x1 S _ _ hP hF _ => ?_; replace hB := hB.trans hF; clear hF
      (try simp_arith only [ht])
      refine DL.takeP hP (by omega) (by omega) (by omega) fun x2 S _ _ hP hF _ => ?_; replace hB := hB.trans hF; clear hF
      have c3 : cutD [D.int a, D.int b, D.int f, D.int bits] (some 3) none = [.int bits] := rfl
      (try simp_arith only [x_sl, c3])
      refine ⟨by decide, ?_⟩
      exact hN _ _ ⟨_, _, 8, bits, rfl, ⟨⟨by omega, by omega, by omega, by omega, by omega, by omega, hh.h.k1, hh.h.k2⟩, by omega, by omega, by omega, by omega⟩, hP.mono (by omega), hB⟩
    · exact hN _ _ ⟨a, b, f, bits, rfl, hh, hP.mono (by omega), hB⟩
  rintro ρ S ⟨a, b, f, bits, rfl, hh, hP, hB⟩
  have := hh.a1; have := hh.a2; have := hh.b1; have := hh.b2; have := hh.h.f1; have := hh.h.f2
  have c2 : cutD [D.int a, D.int b, D.int f, D.int bits] none (some 2) = [.int a, .int b] := rfl
  have c3 : cutD (gs.map D.int) none (some 3) = (gs.take 3).map D.int := by rw [show (3 : Int) = ((3 : Nat) : Int) from rfl, cut_to, List.map_take]
  have g1 := hgs.two
  have g2 := hgs.most
  have l3 : GsOk (peak + 1) (gs.take 3) := ⟨by rw [List.length_take]; omega, by rw [List.length_take]; omega, fun x hx => hgs.bd x (List.mem_of_mem_take hx)⟩
  unfold hndD letsD
  (try simp_arith only [x_sl, c2])
  refine min1_2 fun k hk hk1 hk2 => ?_
  (try simp_arith only [])
  refine if_i (fun _ => ?_) fun _ => ?_
  · (try simp_arith only [x_sl, c3])
    exact hQ _ _ _ _ _ _ _ _ _ hh hl l3 (hP.mono (by omega)) hB
  · (try simp_arith only [])
    refine ⟨mul_small_left (by omega) (by omega), shl_ok (k := 4) (by omega) (by decide) (by decide) (by omega), ?_⟩
    refine if_i (fun _ => ?_) fun _ => ?_
    · (try simp_arith only [x_sl, c3])
      exact hQ _ _ _ _ _ _ _ _ _ hh hl l3 (hP.mono (by omega)) hB
    · (try simp_arith only [])
      exact hQ _ _ _ _ _ _ _ _ _ hh hl hgs (hP.mono (by omega)) hB
end DL

namespace DL
open PySem PySem.Spec PyProof.Rows L2
/-! ### walks over what is written out -/
/-! ### parts of a rule -/
def Tw (B : Int) (q : Rat) : Prop := Rk 20 q ∧ ∃ k : Int, (12 : Rat) * q = (k : Rat) ∧ -(12 * B) ≤ k ∧ k ≤ 12 * B
def Ls (f : Int) (q : Rat) : Prop := Rk 20 q ∧ ∃ k : Int, (pw2 f : Rat) * q = (k : Rat) ∧ 0 ≤ k ∧ k < pw2 f
theorem tw_div {B num den : Int} (hB : B ≤ 1000) (h1 : 1 ≤ den) (h4 : den ≤ 4) (h : -(B * den) ≤ num) (h' : num ≤ B * den) : Tw B ((num : Rat) / (den : Rat)) := by
  have hd : den = 1 ∨ den = 2 ∨ den = 3 ∨ den = 4 := by omega
  have hn : num.natAbs < 2 ^ 20 := by rcases hd with rfl | rfl | rfl | rfl <;> omega
  refine ⟨rk_div (by omega) hn (by omega), ?_⟩
  rcases hd with rfl | rfl | rfl | rfl
  · exact ⟨12 * num, by rw [Rat.intCast_mul]; have : ((1 : Int) : Rat) = 1 := rfl; have e12 : ((12 : Int) : Rat) = 12 := rfl; rw [this, e12]; grind, by omega, by omega⟩
  · exact ⟨6 * num, by rw [Rat.intCast_mul]; have : ((2 : Int) : Rat) = 2 := rfl; have e12 : ((6 : Int) : Rat) = 6 := rfl; rw [this, e12]; grind, by omega, by omega⟩
  · exact ⟨4 * num, by rw [Rat.intCast_mul]; have : ((3 : Int) : Rat) = 3 := rfl; have e12 : ((4 : Int) : Rat) = 4 := rfl; rw [this, e12]; grind, by omega, by omega⟩
  · exact ⟨3 * num, by rw [Rat.intCast_mul]; have : ((4 : Int) : Rat) = 4 := rfl; have e12 : ((3 : Int) : Rat) = 3 := rfl; rw [this, e12]; grind, by omega, by omega⟩
def partC (jt jm : Nat) : List CS := [.par2 3 4 (.call jt [(.var 0), (.con (.int 5))]) (.bin .Add false (.con (.int 1)) (.call jt [(.var 0), (.con (.int 4))])),
  .asg (.name 2) (.lst false [(.var 1), (.bin .Sub false (.con (.int 0)) (.var 1)), (.con (.int 0)), (.var 1), (.bin .Sub false (.call jt [(.var 0), (.bin .Add false (.bin .Mult false (.bin .Mult false (.con (.int 2)) (.var 1)) (.var 4)) (.con (.int 1)))]) (.bin .Mult false (.var 1) (.var 4)))]),
  .ret (.call jm [(.ix (.var 2) (.var 3)), (.ix (.lst false [(.con (.int 1)), (.con (.int 1)), (.con (.int 1)), (.con (.int 1)), (.var 4)]) (.var 3))])]
def spPart (ds : List D) (S : DStore) (Q : QE) : Prop := ∃ n T B, ds = [.ref n, .int B] ∧ Pot n T S ∧ T < 10000000 ∧ 0 ≤ B ∧ B ≤ 1000 ∧ ∀ (q : Rat) S', Tw B q → Pot n (T + 3) S' → Fr n S S' → Q (frD q) S'
theorem spPart_len : ∀ ds S Q, spPart ds S Q → ds.length = 2 := by rintro _ _ _ ⟨_, _, _, rfl, _⟩; rfl
theorem part_ok {G : Fns} {jt jm : Nat} (ht : G.fn jt = spTake) (hm : G.fn jm = spMade) : ∀ ds S Q, spPart ds S Q → wpSs G (partC jt jm) (startD 5 ds) S { nx := fun _ S' => Q .non S', rt := Q } := by
  rintro ds S0 Q ⟨n, T, B, rfl, hP, hT, hB0, hB1, hQ⟩
  have hB : Fr n S0 S0 := .refl
  unfold partC
  simp_arith only [ht]
  refine DL.takeP hP (by omega) (by omega) (by omega) fun wh S _ _ hP hF _ => ?_; replace hB := hB.trans hF; clear hF
  (try simp_arith only [ht])
  refine DL.takeP hP (by omega) (by omega) (by omega) fun u S _ _ hP hF _ => ?_; replace hB := hB.trans hF; clear hF
  (try simp_arith only [ht])
  have hu : (1 : Int) + u = 1 ∨ (1 : Int) + u = 2 ∨ (1 : Int) + u = 3 ∨ (1 : Int) + u = 4 := by omega
  generalize hd : (1 : Int) + u = den at *
  have hb1 : 2 * B * den < 2 ^ 59 ∧ 0 ≤ 2 * B * den := by rcases hu with h | h | h | h <;> subst h <;> omega
  have hbd : 2 * B * den = 2 * (B * den) := by rw [Int.mul_assoc]
  (repeat (refine And.intro (by first | omega | exact DL.mul_small_left (by omega) (by omega) | exact DL.mul_small_right (by omega) (by omega) | exact DL.div_om (by omega) (by omega) (by omega) | exact DL.cpow1 (by omega) (by omega) | exact ⟨by omega, by omega⟩ | exact DL.len_le (by (try simp only [List.length_map, List.length_append, List.length_cons, List.length_nil]); omega) | exact DL.len_lt (by (try simp only [List.length_map, List.length_append, List.length_cons, List.length_nil]); omega) | trivial | decide) ?_))
  refine DL.takeP hP (by omega) (by omega) (by omega) fun v S _ _ hP hF _ => ?_; replace hB := hB.trans hF; clear hF
  (try simp_arith only [hm])
  (repeat (refine And.intro (by first | omega | exact DL.mul_small_left (by omega) (by omega) | exact DL.mul_small_right (by omega) (by omega) | exact DL.div_om (by omega) (by omega) (by omega) | exact DL.cpow1 (by omega) (by omega) | exact ⟨by omega, by omega⟩ | exact DL.len_le (by (try simp only [List.length_map, List.length_append, List.length_cons, List.length_nil]); omega) | exact DL.len_lt (by (try simp only [List.length_map, List.length_append, List.length_cons, List.length_nil]); omega) | trivial | decide) ?_))
  have c5 : wh = 0 ∨ wh = 1 ∨ wh = 2 ∨ wh = 3 ∨ wh = 4 := by omega
  have fin : ∀ num d : Int, 1 ≤ d → d ≤ 4 → -(B * d) ≤ num → num ≤ B * d → spMade [.int num, .int d] S Q := fun num d h1 h2 h3 h4 =>
    madeF (k := 20) (by omega) (by omega) (by decide) (hQ _ S (tw_div hB1 h1 h2 h3 h4) (hP.mono (by omega)) hB)
  rcases c5 with rfl | rfl | rfl | rfl | rfl <;> (try simp_arith only [hm]) <;> exact fin _ _ (by omega) (by omega) (by omega) (by omega)
/-! ### rows -/
structure RowOk (f l s q : Int) (r : LRow) : Prop where
  l : Tw l r.l
  s : Tw s r.s
  m : Tw q r.m
  z : Ls f r.z
theorem ls_div {f z : Int} (hf : f ≤ 8) (h0 : 0 ≤ z) (h1 : z < pw2 f) : Ls f ((z : Rat) / (pw2 f : Rat)) := by
  have hp := pw2_pos f
  have hp2 := pw2_le (f := f) (k := 8) (by omega)
  refine ⟨rk_div (by omega) (by omega) (by omega), z, ?_, h0, h1⟩
  have : (pw2 f : Rat) ≠ 0 := by
    intro e
    have : pw2 f = 0 := by exact_mod_cast e
    omega
  grind
def rowC (jt jp jm : Nat) : List CS := [.asg (.name 3) (.bin .LShift false (.con (.int 1)) (.ix (.var 1) (.con (.int 2)))),
  .asg (.name 4) (.ix (.lst false [(.con (.int 0)), (.bin .Sub false (.var 3) (.con (.int 1))), (.call jt [(.var 0), (.var 3)])]) (.call jt [(.var 0), (.con (.int 3))])),
  .ret (.bin .Add false (.bi .tuple1 false [(.lc false (.call jp [(.var 0), (.var 5)]) (.name 5) (.seq (.var 2)) [] [5])]) (.tup [(.call jm [(.var 4), (.var 3)])]))]
def spRow (ds : List D) (S : DStore) (Q : QE) : Prop := ∃ n T a b f bits l s q, ds = [.ref n, hndD a b f bits, letsD l s q] ∧ Pot n T S ∧ T < 1000000 ∧ HB a b f bits ∧ LB l s q ∧ ∀ (r : LRow) S', RowOk f l s q r → Pot n (T + 12) S' → Fr n S S' → Q r.D S'
theorem spRow_len : ∀ ds S Q, spRow ds S Q → ds.length = 3 := by rintro _ _ _ ⟨_, _, _, _, _, _, _, _, _, rfl, _⟩; rfl
theorem row_ok {G : Fns} {jt jp jm : Nat} (ht : G.fn jt = spTake) (hp : G.fn jp = spPart) (hm : G.fn jm = spMade) : ∀ ds S Q, spRow ds S Q → wpSs G (rowC jt jp jm) (startD 6 ds) S { nx := fun _ S' => Q .non S', rt := Q } := by
  rintro ds S0 Q ⟨n, T, a, b, f, bits, l, s, q, rfl, hP, hT, hh, hl, hQ⟩
  have hB : Fr n S0 S0 := .refl
  have := hh.h.f1; have := hh.h.f2
  have h1 := pw2_pos f
  have h2 := pw2_le (f := f) (k := 8) (by omega)
  have hp1 : G.fn jp = spPart := hp
  refine ss_split 2 (fun ρ S => ∃ z : Int, 0 ≤ z ∧ z < pw2 f ∧ ρ = [some (.ref n), some (hndD a b f bits), some (letsD l s q), some (.int (pw2 f)), some (.int z), none] ∧ Pot n (T + 2) S ∧ Fr n S0 S) (fun N hN => ?_) ?_
  · unfold rowC hndD
    simp_arith only [ht, pw2_one]
    (repeat (refine And.intro (by first | omega | exact DL.mul_small_left (by omega) (by omega) | exact DL.mul_small_right (by omega) (by omega) | exact DL.div_om (by omega) (by omega) (by omega) | exact DL.cpow1 (by omega) (by omega) | exact ⟨by omega, by omega⟩ | exact DL.len_le (by (try simp only [List.length_map, List.length_append, List.length_cons, List.length_nil]); omega) | exact DL.len_lt (by (try simp only [List.length_map, List.length_append, List.length_cons, List.length_nil]); omega) | trivial | decide) ?_))
    refine DL.takeP hP (by omega) (by omega) (by omega) fun z0 S _ _ hP hF _ => ?_; replace hB := hB.trans hF; clear hF
    (try simp_arith only [ht])
    refine DL.takeP hP (by omega) (by omega) (by omega) fun wh S _ _ hP hF _ => ?_; replace hB := hB.trans hF; clear hF
    have c3 : wh = 0 ∨ wh = 1 ∨ wh = 2 := by omega
    rcases c3 with rfl | rfl | rfl <;> (try simp_arith only []) <;> exact hN _ _ ⟨_, by omega, by omega, rfl, hP.mono (by omega), hB⟩
  rintro ρ S ⟨z, hz0, hz1, rfl, hP, hB⟩
  unfold rowC letsD
  (try simp_arith only [hp, hm])
  refine gather_run (by show 3 ≤ sizeLine; decide) ?_
  simp only [gW, DL.lcTurn]
  refine ⟨by simp, ?_⟩
  (try simp_arith only [hp, hm])
  refine ⟨n, _, l, rfl, hP, by omega, hl.l0, hl.l1, fun q1 S t1 hP hF => ?_⟩
  replace hB := hB.trans hF
  refine ⟨by simp, ?_⟩
  (try simp_arith only [hp, hm])
  refine ⟨n, _, s, rfl, hP, by omega, hl.s0, hl.s1, fun q2 S t2 hP hF => ?_⟩
  replace hB := hB.trans hF
  refine ⟨by simp, ?_⟩
  (try simp_arith only [hp, hm])
  refine ⟨n, _, q, rfl, hP, by omega, hl.q0, hl.q1, fun q3 S t3 hP hF => ?_⟩
  replace hB := hB.trans hF
  refine ⟨by simp, ?_⟩
  (try simp_arith only [hp, hm])
  refine madeF (k := 20) (by omega) (by omega) (by decide) ?_
  refine ⟨by show 3 + 1 ≤ sizeLine; decide, ?_⟩
  exact hQ ⟨q1, q2, q3, _⟩ S ⟨t1, t2, t3, ls_div (by omega) hz0 hz1⟩ (hP.mono (by omega)) hB
def runC (jr : Nat) : List CS := [.ret (.bi .tuple1 false [(.lc false (.call jr [(.var 0), (.var 1), (.var 2)]) (.name 4) (.range1 (.bin .Sub false (.bi .len false [(.var 3)]) (.con (.int 1)))) [] [4])])]
def spRun (ds : List D) (S : DStore) (Q : QE) : Prop := ∃ n T a b f bits l s q gs, ds = [.ref n, hndD a b f bits, letsD l s q, .tup (gs.map D.int)] ∧ Pot n T S ∧ T < 100000 ∧ HB a b f bits ∧ LB l s q ∧ GsOk 100 gs ∧ ∀ (rs : List LRow) S', rs.length + 1 = gs.length → (∀ r ∈ rs, RowOk f l s q r) → Pot n (T + 12 * gs.length) S' → Fr n S S' → Q (.tup (rs.map LRow.D)) S'
theorem spRun_len : ∀ ds S Q, spRun ds S Q → ds.length = 4 := by rintro _ _ _ ⟨_, _, _, _, _, _, _, _, _, _, rfl, _⟩; rfl
theorem run_ok {G : Fns} {jr : Nat} (hr : G.fn jr = spRow) : ∀ ds S Q, spRun ds S Q → wpSs G (runC jr) (startD 5 ds) S { nx := fun _ S' => Q .non S', rt := Q } := by
  rintro ds S0 Q ⟨n, T, a, b, f, bits, l, s, q, gs, rfl, hP, hT, hh, hl, hg, hQ⟩
  have g1 := hg.two
  have g2 := hg.most
  unfold runC
  simp_arith only [hr, List.length_map]
  (repeat (refine And.intro (by first | omega | exact DL.mul_small_left (by omega) (by omega) | exact DL.mul_small_right (by omega) (by omega) | exact DL.div_om (by omega) (by omega) (by omega) | exact DL.cpow1 (by omega) (by omega) | exact ⟨by omega, by omega⟩ | exact DL.len_le (by (try simp only [List.length_map, List.length_append, List.length_cons, List.length_nil]); omega) | exact DL.len_lt (by (try simp only [List.length_map, List.length_append, List.length_cons, List.length_nil]); omega) | trivial | decide) ?_))
  have hlen : (rangeD 0 ((gs.length : Int) - 1)).length = gs.length - 1 := by rw [rangeD, List.length_map, List.length_range]; omega
  refine gather_inv (fun i acc S => ∃ rs : List LRow, acc = rs.map LRow.D ∧ rs.length = i ∧ (∀ r ∈ rs, RowOk f l s q r) ∧ Pot n (T + 12 * i) S ∧ Fr n S0 S) (by rw [hlen]; exact len_le (by omega)) ⟨[], rfl, rfl, fun r hr => (by cases hr), hP.mono (by omega), Fr.refl⟩ ?_ ?_ ?_
  · rintro i acc S ⟨rs, rfl, hl, _⟩
    exact ⟨trivial, by simp [hl]⟩
  · rintro i x acc S hx ⟨rs, rfl, hlr, hrs, hP, hB⟩ N h1 h2
    have hi : i < gs.length - 1 := by
      have := (List.getElem?_eq_some_iff.mp hx).1
      rw [hlen] at this; exact this
    unfold lcTurn
    (try simp_arith only [hr])
    refine ⟨n, _, a, b, f, bits, l, s, q, rfl, hP, by omega, hh, hl, fun r S hr hP hF => ?_⟩
    refine h1 _ _ ⟨rs ++ [r], by simp, by simp [hlr], fun x hx => ?_, hP.mono (by omega), hB.trans hF⟩
    rcases List.mem_append.mp hx with h | h
    · exact hrs x h
    · rw [List.mem_singleton.mp h]; exact hr
  · rintro acc S ⟨rs, rfl, hlr, hrs, hP, hB⟩
    (try simp_arith only [])
    exact hQ rs S (by omega) hrs (hP.mono (by omega)) hB
/-! ### the unit -/
def unitU (f : Int) (gs : List Int) : Int := 12 * 2 ^ (f * ((gs.length : Int) + 1)).toNat
def unitC : List CS := [.ret (.bin .LShift false (.con (.int 12)) (.bin .Mult false (.ix (.var 0) (.con (.int 2))) (.bin .Add false (.bi .len false [(.var 1)]) (.con (.int 1)))))]
def spUnit (ds : List D) (S : DStore) (Q : QE) : Prop := ∃ a b f bits gs, ds = [hndD a b f bits, .tup (gs.map D.int)] ∧ HOk a b f bits ∧ gs.length ≤ 100 ∧ Q (.int (unitU f gs)) S
theorem spUnit_len : ∀ ds S Q, spUnit ds S Q → ds.length = 2 := by rintro _ _ _ ⟨_, _, _, _, _, rfl, _⟩; rfl
theorem fl_bd {f : Int} {n : Nat} (h0 : 0 ≤ f) (h1 : f ≤ 8) : 0 ≤ f * ((n : Int) + 1) ∧ f * ((n : Int) + 1) ≤ 8 * ((n : Int) + 1) :=
  ⟨Int.mul_nonneg h0 (by omega), Int.mul_le_mul_of_nonneg_right h1 (by omega)⟩
theorem unit_ok {G : Fns} : ∀ ds S Q, spUnit ds S Q → wpSs G unitC (startD 2 ds) S { nx := fun _ S' => Q .non S', rt := Q } := by
  rintro ds S Q ⟨a, b, f, bits, gs, rfl, hh, hl, hQ⟩
  have := hh.f1; have := hh.f2
  have hb := fl_bd (n := gs.length) hh.f1 hh.f2
  unfold unitC hndD
  simp_arith only [List.length_map]
  exact ⟨mul_small_left (by omega) (by omega), shl_ok (k := 4) (by omega) (by decide) (by decide) (by omega), hQ⟩
end DL

namespace DL
open PySem PySem.Spec PyProof.Rows L2
/-! ### a run in whole parts -/
structure IRow where
  l : Int
  s : Int
  m : Int
  z : Int
structure ISt where
  x : Int
  v : Int
  y0 : Int
def sc (U : Int) (q : Rat) : Int := q.num * U / q.den
def irow (U : Int) (r : LRow) : IRow := ⟨sc U r.l, sc U r.s, sc U r.m, sc U r.z⟩
section
variable (U a b f : Int) (gs : List Int)
def iSum (t : Nat) (s : ISt) (r : IRow) : Int := a * (s.x + r.m - gI gs t * U) + b * (s.x + r.m - s.y0 - pcW gs t * U)
def iPush (t : Nat) (s : ISt) (r : IRow) : Int := (ltW gs t - pcW gs t) * U - iSum U a b gs t s r / pw2 f + r.z
def iPace (t : Nat) (s : ISt) (r : IRow) : Int := s.v + iPush U a b f gs t s r + r.l
def iN (t : Nat) (s : ISt) (r : IRow) : ISt := ⟨s.x + iPace U a b f gs t s r + r.s, iPace U a b f gs t s r, s.x + r.m⟩
def iState (t : Nat) (s : ISt) (r : IRow) : List Int := [s.x, s.v, s.x + r.m, iPush U a b f gs t s r]
def iSize (t : Nat) (s : ISt) (r : IRow) : List Int := [s.x - gI gs t * U, iPace U a b f gs t s r + r.s, iPush U a b f gs t s r, s.x + r.m - gI gs t * U, s.x + r.m - s.y0 - pcW gs t * U, a * (s.x + r.m - gI gs t * U), b * (s.x + r.m - s.y0 - pcW gs t * U), iSum U a b gs t s r, (ltW gs t - pcW gs t) * U - iPush U a b f gs t s r, iPush U a b f gs t s r]
def iStates : Nat → ISt → List LRow → List (List Int)
  | _, _, [] => []
  | t, s, r :: rs => iState U a b f gs t s (irow U r) :: iStates (t + 1) (iN U a b f gs t s (irow U r)) rs
def iSizes : Nat → ISt → List LRow → List (List Int)
  | _, _, [] => []
  | t, s, r :: rs => iSize U a b f gs t s (irow U r) :: iSizes (t + 1) (iN U a b f gs t s (irow U r)) rs
def iEnd : Nat → ISt → List LRow → ISt
  | _, s, [] => s
  | t, s, r :: rs => iEnd (t + 1) (iN U a b f gs t s (irow U r)) rs
def iS0 : ISt := ⟨gI gs 0 * U, 0, gI gs 0 * U⟩
def allStates (rs : List LRow) : List (List Int) := iStates U a b f gs 0 (iS0 U gs) rs ++ [[(iEnd U a b f gs 0 (iS0 U gs) rs).x, (iEnd U a b f gs 0 (iS0 U gs) rs).v]]
def allSizes (rs : List LRow) : List (List Int) := iSizes U a b f gs 0 (iS0 U gs) rs ++ [[(iEnd U a b f gs 0 (iS0 U gs) rs).x - gI gs (gs.length - 1) * U]]
end
def tupI (r : List Int) : D := .tup (r.map D.int)
def lstI (r : List Int) : D := .lst (r.map D.int)
structure Rk20 (r : LRow) : Prop where
  l : Rk 20 r.l
  s : Rk 20 r.s
  m : Rk 20 r.m
  z : Rk 20 r.z
def sizesC (ju jw : Nat) : List CS := [.asg (.tup [(.name 3), (.name 4), (.name 5), (.name 6)]) (.var 0),
  .asg (.tup [(.name 7), (.name 8), (.name 9)]) (.tup [(.call ju [(.var 0), (.var 1)]), (.lst true []), (.lst true [])]),
  .par3 10 11 12 (.bin .Mult false (.ix (.var 1) (.con (.int 0))) (.var 7)) (.con (.int 0)) (.bin .Mult false (.ix (.var 1) (.con (.int 0))) (.var 7)),
  .for_ (.tup [(.name 13), (.name 14)]) (.enum (.var 2)) [.asg (.tup [(.name 19), (.name 20), (.name 21), (.name 22)]) (.lc false (.bin .FloorDiv false (.bin .Mult false (.ix (.var 26) (.con (.int 0))) (.var 7)) (.ix (.var 26) (.con (.int 1)))) (.name 26) (.seq (.var 14)) [] [26]),
    .asg (.tup [(.name 23), (.name 24), (.name 25)]) (.lc false (.bin .Mult false (.var 27) (.var 7)) (.name 27) (.seq (.call jw [(.var 1), (.var 13)])) [] [27]),
    .asg (.name 15) (.bin .Add false (.var 10) (.var 21)),
    .asg (.name 16) (.lst false [(.bin .Sub false (.var 15) (.var 23)), (.bin .Sub false (.bin .Sub false (.var 15) (.var 12)) (.var 24)), (.bin .Mult false (.var 3) (.bin .Sub false (.var 15) (.var 23))), (.bin .Mult false (.var 4) (.bin .Sub false (.bin .Sub false (.var 15) (.var 12)) (.var 24)))]),
    .asg (.name 17) (.bin .Add false (.ix (.var 16) (.con (.int 2))) (.ix (.var 16) (.con (.int 3)))),
    .asg (.name 18) (.bin .Add false (.bin .Sub false (.var 25) (.bin .RShift false (.var 17) (.var 5))) (.var 22)),
    .append (.var 9) (.tup [(.var 10), (.var 11), (.var 15), (.var 18)]),
    .asg (.name 11) (.bin .Add false (.bin .Add false (.var 11) (.var 18)) (.var 19)),
    .append (.var 8) (.bin .Add false (.bin .Add false (.lst false [(.bin .Sub false (.var 10) (.var 23)), (.bin .Add false (.var 11) (.var 20)), (.var 18)]) (.var 16)) (.lst false [(.var 17), (.bin .Sub false (.var 25) (.var 18)), (.var 18)])),
    .par2 10 12 (.bin .Add false (.bin .Add false (.var 10) (.var 11)) (.var 20)) (.var 15)],
  .ret (.tup [(.bin .Add false (.var 8) (.lst false [(.lst false [(.bin .Sub false (.var 10) (.bin .Mult false (.ix (.var 1) (.neg (.con (.int 1)))) (.var 7)))])])), (.bin .Add false (.var 9) (.lst false [(.tup [(.var 10), (.var 11)])]))])]
def spSizes (ds : List D) (S : DStore) (Q : QE) : Prop := ∃ a b f bits gs rs, ds = [hndD a b f bits, .tup (gs.map D.int), .tup (rs.map LRow.D)] ∧ HOk a b f bits ∧ 0 < gs.length ∧ gs.length ≤ 100 ∧ rs.length ≤ gs.length ∧ (∀ x ∈ gs, -1000000000 ≤ x ∧ x ≤ 1000000000) ∧ (∀ r ∈ rs, Rk20 r) ∧
  ∀ S', Kp S S' → Q (.tup [.lst ((allSizes (unitU f gs) a b f gs rs).map lstI), .lst ((allStates (unitU f gs) a b f gs rs).map tupI)]) S'
theorem spSizes_len : ∀ ds S Q, spSizes ds S Q → ds.length = 3 := by rintro _ _ _ ⟨_, _, _, _, _, _, rfl, _⟩; rfl
theorem sizes_ok {G : Fns} {ju jw : Nat} (hu : G.fn ju = spUnit) (hw : G.fn jw = spW) : ∀ ds S Q, spSizes ds S Q → wpSs G (sizesC ju jw) (startD 28 ds) S { nx := fun _ S' => Q .non S', rt := Q } := by
  rintro ds S Q ⟨a, b, f, bits, gs, rs, rfl, h, hg0, hg1, hrl, hgs, hrs, hQ⟩
  have := h.a1; have := h.a2; have := h.b1; have := h.b2; have := h.f1; have := h.f2
  unfold sizesC
  have e0 := at_g (gs := gs) (i := 0) (by decide) (by omega)
  have em := at_m1 (gs := gs) hg0
  have bg := gI_bd (B := 1000000000) (by decide) hgs
  have bw := W_bd (B := 1000000000) (by decide) hgs
  have b0 := bg 0
  have bz := bg (gs.length - 1)
  refine ss_split 3 (fun ρ S' => ρ = [some (hndD a b f bits), some (.tup (gs.map D.int)), some (.tup (rs.map LRow.D)), some (.int a), some (.int b), some (.int f), some (.int bits), some (.int (unitU f gs)), some (.ref S.length), some (.ref (S.length + 1)), some (.int (gI gs 0 * unitU f gs)), some (.int 0), some (.int (gI gs 0 * unitU f gs)), none, none, none, none, none, none, none, none, none, none, none, none, none, none, none] ∧ S' = (S ++ [.lst []]) ++ [.lst []]) (fun N hN => ?_) ?_
  · unfold hndD
    simp_arith only [hu, e0]
    refine ⟨by trivial, a, b, f, bits, gs, rfl, h, hg1, ?_⟩
    (try simp_arith only [hu, e0])
    refine ⟨by trivial, ?_⟩
    (repeat (refine And.intro (by first | omega | exact DL.mul_small_left (by omega) (by omega) | exact DL.mul_small_right (by omega) (by omega) | exact DL.div_om (by omega) (by omega) (by omega) | exact DL.cpow1 (by omega) (by omega) | exact ⟨by omega, by omega⟩ | exact DL.len_le (by (try simp only [List.length_map, List.length_append, List.length_cons, List.length_nil]); omega) | exact DL.len_lt (by (try simp only [List.length_map, List.length_append, List.length_cons, List.length_nil]); omega) | trivial | decide) ?_))
    exact hN _ _ ⟨by simp [hndD], rfl⟩
  rintro ρ S1 ⟨rfl, hS1⟩
  have hqF : S1[S.length]? = some (.lst []) := by rw [hS1]; simp
  have hqS : S1[S.length + 1]? = some (.lst []) := by rw [hS1]; simp
  have hK : Kp S S1 := fun j c hj => by
    have hlt := (List.getElem?_eq_some_iff.mp hj).1
    rw [hS1, List.append_assoc, List.getElem?_append_left hlt]; exact hj
  have hSl : ∀ (j : Nat) (c : Cell), S[j]? = some c → j < S.length := fun j c hj => (List.getElem?_eq_some_iff.mp hj).1
  clear hS1
  generalize hFq : S.length = qF at *
  refine ss_split 1 (fun ρ S' => ∃ (s : ISt) (r13 r14 r15 r16 r17 r18 r19 r20 r21 r22 r23 r24 r25 r26 r27 : Option D), ρ = [some (hndD a b f bits), some (.tup (gs.map D.int)), some (.tup (rs.map LRow.D)), some (.int a), some (.int b), some (.int f), some (.int bits), some (.int (unitU f gs)), some (.ref qF), some (.ref (qF + 1)), some (.int s.x), some (.int s.v), some (.int s.y0), r13, r14, r15, r16, r17, r18, r19, r20, r21, r22, r23, r24, r25, r26, r27] ∧ S'[qF]? = some (.lst ((iSizes (unitU f gs) a b f gs 0 (iS0 (unitU f gs) gs) rs).map lstI)) ∧ S'[qF + 1]? = some (.lst ((iStates (unitU f gs) a b f gs 0 (iS0 (unitU f gs) gs) rs).map tupI)) ∧ Kp S S' ∧ iEnd (unitU f gs) a b f gs 0 (iS0 (unitU f gs) gs) rs = s) (fun N hN => ?_) ?_
  · generalize hU : unitU f gs = U at *
    (try simp_arith only [])
    refine walk_list (fun i ρ S' => ∃ (s : ISt) (accF accS : List (List Int)) (r13 r14 r15 r16 r17 r18 r19 r20 r21 r22 r23 r24 r25 r26 r27 : Option D), ρ = [some (hndD a b f bits), some (.tup (gs.map D.int)), some (.tup (rs.map LRow.D)), some (.int a), some (.int b), some (.int f), some (.int bits), some (.int U), some (.ref qF), some (.ref (qF + 1)), some (.int s.x), some (.int s.v), some (.int s.y0), r13, r14, r15, r16, r17, r18, r19, r20, r21, r22, r23, r24, r25, r26, r27] ∧ S'[qF]? = some (.lst (accF.map lstI)) ∧ S'[qF + 1]? = some (.lst (accS.map tupI)) ∧ Kp S S' ∧ accF.length = i ∧ accS.length = i ∧
        iSizes U a b f gs 0 (iS0 U gs) rs = accF ++ iSizes U a b f gs i s (rs.drop i) ∧ iStates U a b f gs 0 (iS0 U gs) rs = accS ++ iStates U a b f gs i s (rs.drop i) ∧ iEnd U a b f gs 0 (iS0 U gs) rs = iEnd U a b f gs i s (rs.drop i))
      ⟨iS0 U gs, [], [], none, none, none, none, none, none, none, none, none, none, none, none, none, none, none, rfl, hqF, hqS, hK, rfl, rfl, rfl, rfl, rfl⟩ (fun _ _ _ _ => trivial) (fun i x ρ S' hx hP => ?_) (fun ρ S' hP => ?_)
    · obtain ⟨s, accF, accS, r13, r14, r15, r16, r17, r18, r19, r20, r21, r22, r23, r24, r25, r26, r27, rfl, hqF, hqS, hK, hlF, hlS, hrF, hrS, hend⟩ := hP
      have hi : i < rs.length := by
        have := (List.getElem?_eq_some_iff.mp hx).1
        rw [enum_len, List.length_map] at this; exact this
      have hxe : x = .tup [.int i, (rs[i]).D] := by
        rw [enum_get (x := (rs[i]).D) (by rw [List.getElem?_map, List.getElem?_eq_getElem hi]; rfl)] at hx
        exact (Option.some.inj hx).symm
      subst hxe
      have hr := hrs _ (List.getElem_mem hi)
      rw [List.drop_eq_getElem_cons hi] at hrF hrS hend
      generalize hrr : rs[i] = r at *
      simp only [iSizes, iStates, iEnd] at hrF hrS hend
      have n1 := hr.l.n; have n2 := hr.s.n; have n3 := hr.m.n; have n4 := hr.z.n
      have d1 := hr.l.d; have d2 := hr.s.d; have d3 := hr.m.d; have d4 := hr.z.d
      have p1 := den_pos r.l; have p2 := den_pos r.s; have p3 := den_pos r.m; have p4 := den_pos r.z
      unfold DL.forTurn LRow.D
      (try simp_arith only [])
      refine ⟨by trivial, gather_run (by show 4 ≤ sizeLine; decide) ?_⟩
      simp only [gW, DL.lcTurn]
      refine ⟨by simp, ?_⟩
      (try simp_arith only [x_fr0, x_fr1])
      (repeat (refine And.intro (by first | omega | exact DL.mul_small_left (by omega) (by omega) | exact DL.mul_small_right (by omega) (by omega) | exact DL.div_om (by omega) (by omega) (by omega) | exact DL.cpow1 (by omega) (by omega) | exact ⟨by omega, by omega⟩ | exact DL.len_le (by (try simp only [List.length_map, List.length_append, List.length_cons, List.length_nil]); omega) | exact DL.len_lt (by (try simp only [List.length_map, List.length_append, List.length_cons, List.length_nil]); omega) | trivial | decide) ?_))
      rw [fdiv_e (b := r.l.den) (by omega), fdiv_e (b := r.s.den) (by omega), fdiv_e (b := r.m.den) (by omega), fdiv_e (b := r.z.den) (by omega)]
      (try simp_arith only [hw])
      refine ⟨gs, i, rfl, by omega, by omega, hg1, ?_⟩
      have bgi := bg i
      have bwi := bw i
      unfold wshD
      (try simp_arith only [])
      refine gather_run (by show 3 ≤ sizeLine; decide) ?_
      simp only [gW, DL.lcTurn]
      refine ⟨by simp, ?_⟩
      (try simp_arith only [])
      (repeat (refine And.intro (by first | omega | exact DL.mul_small_left (by omega) (by omega) | exact DL.mul_small_right (by omega) (by omega) | exact DL.div_om (by omega) (by omega) (by omega) | exact DL.cpow1 (by omega) (by omega) | exact ⟨by omega, by omega⟩ | exact DL.len_le (by (try simp only [List.length_map, List.length_append, List.length_cons, List.length_nil]); omega) | exact DL.len_lt (by (try simp only [List.length_map, List.length_append, List.length_cons, List.length_nil]); omega) | trivial | decide) ?_))
      refine ⟨lat hqS, _, hqS, len_lt (by rw [List.length_map]; omega), ?_⟩
      (try simp_arith only [])
      refine ⟨lat (xs := accF.map lstI) (by rw [List.getElem?_set_ne (by omega)]; exact hqF), by decide, by decide, accF.map lstI, ?_, len_lt (by rw [List.length_map]; omega), ?_⟩
      · rw [List.getElem?_set_ne (by omega)]; exact hqF
      refine ⟨iN U a b f gs i s (irow U r), accF ++ [iSize U a b f gs i s (irow U r)], accS ++ [iState U a b f gs i s (irow U r)], _, _, _, _, _, _, _, _, _, _, _, _, _, _, _, rfl, ?_, ?_, ?_, by simp [hlF], by simp [hlS], by rw [hrF]; simp, by rw [hrS]; simp, hend⟩
      · rw [List.getElem?_set_self (by rw [List.length_set]; exact (List.getElem?_eq_some_iff.mp hqF).1), List.map_append]; rfl
      · rw [List.getElem?_set_ne (by omega), List.getElem?_set_self (List.getElem?_eq_some_iff.mp hqS).1, List.map_append]; rfl
      · intro j c hj
        have := hSl j c hj
        rw [List.getElem?_set_ne (by omega), List.getElem?_set_ne (by omega)]; exact hK j c hj
    · obtain ⟨s, accF, accS, r13, r14, r15, r16, r17, r18, r19, r20, r21, r22, r23, r24, r25, r26, r27, rfl, hqF, hqS, hK, hlF, hlS, hrF, hrS, hend⟩ := hP
      rw [enum_len, List.length_map] at hrF hrS hend
      rw [List.drop_length] at hrF hrS hend
      simp only [iSizes, iStates, iEnd, List.append_nil] at hrF hrS hend
      exact hN _ _ ⟨s, r13, r14, r15, r16, r17, r18, r19, r20, r21, r22, r23, r24, r25, r26, r27, rfl, by rw [hrF]; exact hqF, by rw [hrS]; exact hqS, hK, hend⟩
  rintro ρ S' ⟨s, r13, r14, r15, r16, r17, r18, r19, r20, r21, r22, r23, r24, r25, r26, r27, rfl, hqF, hqS, hK, hend⟩
  have lF : (iSizes (unitU f gs) a b f gs 0 (iS0 (unitU f gs) gs) rs).length = rs.length := by
    have : ∀ (l : List LRow) t s, (iSizes (unitU f gs) a b f gs t s l).length = l.length := fun l => by
      induction l with
      | nil => intro t s; rfl
      | cons x l ih => intro t s; simp [iSizes, ih]
    exact this _ _ _
  have lS : (iStates (unitU f gs) a b f gs 0 (iS0 (unitU f gs) gs) rs).length = rs.length := by
    have : ∀ (l : List LRow) t s, (iStates (unitU f gs) a b f gs t s l).length = l.length := fun l => by
      induction l with
      | nil => intro t s; rfl
      | cons x l ih => intro t s; simp [iStates, ih]
    exact this _ _ _
  (try simp_arith only [em])
  (repeat (refine And.intro (by first | omega | exact DL.mul_small_left (by omega) (by omega) | exact DL.mul_small_right (by omega) (by omega) | exact DL.div_om (by omega) (by omega) (by omega) | exact DL.cpow1 (by omega) (by omega) | exact ⟨by omega, by omega⟩ | exact DL.len_le (by (try simp only [List.length_map, List.length_append, List.length_cons, List.length_nil]); omega) | exact DL.len_lt (by (try simp only [List.length_map, List.length_append, List.length_cons, List.length_nil]); omega) | trivial | decide) ?_))
  refine o_addRL hqF (len_le (by simp only [List.length_map, List.length_cons, List.length_nil]; omega)) ?_
  (try simp_arith only [])
  refine o_addRL hqS (len_le (by simp only [List.length_map, List.length_cons, List.length_nil]; omega)) ?_
  (try simp_arith only [])
  have := hQ S' hK
  unfold allSizes allStates at this
  rw [hend, List.map_append, List.map_append] at this
  exact this
end DL

namespace DL
open PySem PySem.Spec PyProof.Rows L2
/-! ### whole parts and fractions -/
theorem icast_ne {U : Int} (h : U ≠ 0) : (U : Rat) ≠ 0 := fun e => h (by exact_mod_cast e)
theorem num_den {c k : Int} {q : Rat} (h : (c : Rat) * q = (k : Rat)) : c * q.num = k * q.den := by
  have h1 := rat_self q
  have h2 := den_ne q
  have e : ((c * q.num : Int) : Rat) = ((k * q.den : Int) : Rat) := by
    rw [Rat.intCast_mul, Rat.intCast_mul]
    generalize ((q.den : Int) : Rat) = b at *
    generalize ((q.num : Int) : Rat) = m at *
    rw [← h, ← h1]
    grind
  exact_mod_cast e
theorem sc_of {c k W : Int} {q : Rat} (h : (c : Rat) * q = (k : Rat)) : sc (c * W) q = k * W ∧ q * ((c * W : Int) : Rat) = ((k * W : Int) : Rat) := by
  have e := num_den h
  constructor
  · unfold sc
    have : q.num * (c * W) = k * W * q.den := by
      rw [← Int.mul_assoc, Int.mul_comm q.num c, e]
      rw [Int.mul_assoc, Int.mul_assoc, Int.mul_comm (q.den : Int) W]
    rw [this, Int.mul_ediv_cancel _ (by have := den_pos q; omega)]
  · rw [Rat.intCast_mul, Rat.intCast_mul, ← h]
    grind
theorem toNat_mul {f : Int} {n : Nat} (h : 0 ≤ f) : (f * (n : Int)).toNat = f.toNat * n := by
  obtain ⟨k, rfl⟩ := Int.eq_ofNat_of_zero_le h
  rw [← Int.natCast_mul, Int.toNat_natCast, Int.toNat_natCast]
theorem unit_pow {f : Int} {gs : List Int} (h : 0 ≤ f) : unitU f gs = 12 * pw2 f ^ (gs.length + 1) := by
  unfold unitU pw2
  rw [show f * ((gs.length : Int) + 1) = f * ((gs.length + 1 : Nat) : Int) by simp, toNat_mul h, Int.pow_mul]
structure Rel (U : Int) (s : LSt) (i : ISt) : Prop where
  x : s.x * (U : Rat) = (i.x : Rat)
  v : s.v * (U : Rat) = (i.v : Rat)
  y0 : s.y0 * (U : Rat) = (i.y0 : Rat)
structure Dv (M : Int) (i : ISt) : Prop where
  x : M ∣ i.x
  v : M ∣ i.v
  y0 : M ∣ i.y0
structure Bd (k : Nat) (i : ISt) : Prop where
  x : i.x.natAbs < 2 ^ k
  v : i.v.natAbs < 2 ^ k
  y0 : i.y0.natAbs < 2 ^ k
structure RelR (U : Int) (r : LRow) (i : IRow) : Prop where
  l : r.l * (U : Rat) = (i.l : Rat)
  s : r.s * (U : Rat) = (i.s : Rat)
  m : r.m * (U : Rat) = (i.m : Rat)
  z : r.z * (U : Rat) = (i.z : Rat)
structure BdR (k : Nat) (i : IRow) : Prop where
  l : i.l.natAbs < 2 ^ k
  s : i.s.natAbs < 2 ^ k
  m : i.m.natAbs < 2 ^ k
  z : i.z.natAbs < 2 ^ k
theorem push_rel {U a b f X V P : Int} {y y0 z : Rat} {iy iy0 iz : Int} (h : pw2 f ∣ a * (iy - X * U) + b * (iy - iy0 - V * U)) (hy : y * (U : Rat) = (iy : Rat)) (hy0 : y0 * (U : Rat) = (iy0 : Rat)) (hz : z * (U : Rat) = (iz : Rat)) :
    (exq a b f X V P y y0 + z) * (U : Rat) = ((P * U - (a * (iy - X * U) + b * (iy - iy0 - V * U)) / pw2 f + iz : Int) : Rat) := by
  obtain ⟨Z, hZ⟩ := h
  have hw := pw2_pos f
  have hw0 : (pw2 f : Rat) ≠ 0 := icast_ne (by omega)
  rw [hZ, Int.mul_ediv_cancel_left _ (by omega)]
  have e : ((pw2 f * Z : Int) : Rat) = ((a * (iy - X * U) + b * (iy - iy0 - V * U) : Int) : Rat) := by rw [hZ]
  unfold exq
  simp only [Rat.intCast_add, Rat.intCast_mul, Rat.intCast_sub] at e ⊢
  rw [← hy, ← hy0] at e
  rw [← hz]
  generalize (pw2 f : Rat) = w at *
  generalize (Z : Rat) = z' at *
  grind
theorem rel_step {U a b f : Int} {gs : List Int} {t : Nat} {s : LSt} {i : ISt} {r : LRow} {ir : IRow} (h : Rel U s i) (hr : RelR U r ir) (hd : pw2 f ∣ iSum U a b gs t i ir) :
    ledU a b f gs t s r * (U : Rat) = (iPush U a b f gs t i ir : Rat) ∧ (s.v + ledU a b f gs t s r) * (U : Rat) = ((i.v + iPush U a b f gs t i ir : Int) : Rat) ∧ ledV a b f gs t s r * (U : Rat) = (iPace U a b f gs t i ir : Rat) ∧ (s.x + ledV a b f gs t s r) * (U : Rat) = ((i.x + iPace U a b f gs t i ir : Int) : Rat) ∧ Rel U (ledN a b f gs t s r) (iN U a b f gs t i ir) := by
  have hy : (s.x + r.m) * (U : Rat) = ((i.x + ir.m : Int) : Rat) := by rw [Rat.intCast_add, ← h.x, ← hr.m]; grind
  have hu : ledU a b f gs t s r * (U : Rat) = (iPush U a b f gs t i ir : Rat) := push_rel hd hy h.y0 hr.z
  have hu2 : (s.v + ledU a b f gs t s r) * (U : Rat) = ((i.v + iPush U a b f gs t i ir : Int) : Rat) := by rw [Rat.intCast_add, ← h.v, ← hu]; grind
  have hv : ledV a b f gs t s r * (U : Rat) = (iPace U a b f gs t i ir : Rat) := by
    unfold ledV iPace
    rw [Rat.intCast_add, ← hu2, ← hr.l]; grind
  have hx : (s.x + ledV a b f gs t s r) * (U : Rat) = ((i.x + iPace U a b f gs t i ir : Int) : Rat) := by rw [Rat.intCast_add, ← hv, ← h.x]; grind
  refine ⟨hu, hu2, hv, hx, ?_, hv, hy⟩
  show (s.x + ledV a b f gs t s r + r.s) * (U : Rat) = ((i.x + iPace U a b f gs t i ir + ir.s : Int) : Rat)
  rw [Rat.intCast_add, ← hx, ← hr.s]; grind
theorem natAbs_sub_lt {a b : Int} {k : Nat} (h1 : a.natAbs < 2 ^ k) (h2 : b.natAbs < 2 ^ k) : (a - b).natAbs < 2 ^ (k + 1) := by
  rw [Nat.pow_succ]; omega
theorem lt_up {n k l : Nat} (h : n < 2 ^ k) (hl : k ≤ l) : n < 2 ^ l := Nat.lt_of_lt_of_le h (Nat.pow_le_pow_right (by decide) hl)
theorem ediv_abs {a b : Int} (h : 1 ≤ b) (hd : b ∣ a) : (a / b).natAbs ≤ a.natAbs := by
  obtain ⟨c, rfl⟩ := hd
  rw [Int.mul_ediv_cancel_left _ (by omega), Int.natAbs_mul]
  exact Nat.le_mul_of_pos_left _ (by omega)
/-- sizes of a step -/
theorem bd_step {U a b f : Int} {gs : List Int} {t k : Nat} {i : ISt} {ir : IRow} (hk : 0 < k) (hU : U.natAbs < 2 ^ (k - 14)) (hk12 : 14 ≤ k) (ha : a.natAbs < 2 ^ 13) (hb : b.natAbs < 2 ^ 13) (hg : (gI gs t).natAbs < 2 ^ 14) (hp : (pcW gs t).natAbs < 2 ^ 14) (hl : (ltW gs t - pcW gs t).natAbs < 2 ^ 14) (h : Bd k i) (hr : BdR k ir) (hd : pw2 f ∣ iSum U a b gs t i ir) :
    (iPush U a b f gs t i ir).natAbs < 2 ^ (k + 20) ∧ (iPace U a b f gs t i ir).natAbs < 2 ^ (k + 22) ∧ Bd (k + 24) (iN U a b f gs t i ir) := by
  have gU : (gI gs t * U).natAbs < 2 ^ k := by have := natAbs_mul_lt hg hU; rwa [show 14 + (k - 14) = k by omega] at this
  have pU : (pcW gs t * U).natAbs < 2 ^ k := by have := natAbs_mul_lt hp hU; rwa [show 14 + (k - 14) = k by omega] at this
  have lU : ((ltW gs t - pcW gs t) * U).natAbs < 2 ^ k := by have := natAbs_mul_lt hl hU; rwa [show 14 + (k - 14) = k by omega] at this
  have y : (i.x + ir.m).natAbs < 2 ^ (k + 1) := natAbs_add_lt h.x hr.m
  have n0 : (i.x + ir.m - gI gs t * U).natAbs < 2 ^ (k + 2) := natAbs_sub_lt y (lt_up gU (by omega))
  have n1 : (i.x + ir.m - i.y0 - pcW gs t * U).natAbs < 2 ^ (k + 3) := natAbs_sub_lt (natAbs_sub_lt y (lt_up h.y0 (by omega))) (lt_up pU (by omega))
  have m0 := lt_up (natAbs_mul_lt ha n0) (show 13 + (k + 2) ≤ k + 16 by omega)
  have m1 := lt_up (natAbs_mul_lt hb n1) (show 13 + (k + 3) ≤ k + 16 by omega)
  have sm : (iSum U a b gs t i ir).natAbs < 2 ^ (k + 17) := natAbs_add_lt m0 m1
  have dv : (iSum U a b gs t i ir / pw2 f).natAbs < 2 ^ (k + 17) := Nat.lt_of_le_of_lt (ediv_abs (pw2_pos f) hd) sm
  have pu : (iPush U a b f gs t i ir).natAbs < 2 ^ (k + 19) := natAbs_add_lt (natAbs_sub_lt (lt_up lU (by omega)) dv) (lt_up hr.z (by omega))
  have pc : (iPace U a b f gs t i ir).natAbs < 2 ^ (k + 21) := natAbs_add_lt (natAbs_add_lt (lt_up h.v (by omega)) pu) (lt_up hr.l (by omega))
  refine ⟨lt_up pu (by omega), lt_up pc (by omega), ?_, lt_up pc (by omega), lt_up y (by omega)⟩
  show (i.x + iPace U a b f gs t i ir + ir.s).natAbs < _
  exact lt_up (natAbs_add_lt (natAbs_add_lt (lt_up h.x (by omega)) pc) (lt_up hr.s (by omega))) (show k + 21 + 1 + 1 ≤ k + 24 by omega)
/-- parts of a step -/
theorem dv_step {U a b f : Int} {gs : List Int} {t k : Nat} {i : ISt} {ir : IRow} {w : Int} (hw : w = pw2 f) (hU : w ^ (k + 1) ∣ U) (hl : w ^ k ∣ ir.l) (hs : w ^ k ∣ ir.s) (hm : w ^ (k + 1) ∣ ir.m) (hz : w ^ k ∣ ir.z) (h : Dv (w ^ (k + 1)) i) :
    pw2 f ∣ iSum U a b gs t i ir ∧ Dv (w ^ k) (iN U a b f gs t i ir) := by
  have up : ∀ {x : Int}, w ^ (k + 1) ∣ x → w ^ k ∣ x := fun hx => Int.dvd_trans ⟨w, by rw [Int.pow_succ]⟩ hx
  have y : w ^ (k + 1) ∣ i.x + ir.m := Int.dvd_add h.x hm
  have sm : w ^ (k + 1) ∣ iSum U a b gs t i ir := Int.dvd_add (Int.dvd_mul_of_dvd_right (Int.dvd_sub y (Int.dvd_mul_of_dvd_right hU))) (Int.dvd_mul_of_dvd_right (Int.dvd_sub (Int.dvd_sub y h.y0) (Int.dvd_mul_of_dvd_right hU)))
  have pos := pw2_pos f
  obtain ⟨Z, hZ⟩ := sm
  have hZ' : iSum U a b gs t i ir = pw2 f * (w ^ k * Z) := by rw [hZ, Int.pow_succ, hw, Int.mul_comm (pw2 f ^ k), Int.mul_assoc]
  have dvd : w ^ k ∣ iSum U a b gs t i ir / pw2 f := by rw [hZ', Int.mul_ediv_cancel_left _ (by omega)]; exact ⟨Z, rfl⟩
  have pu : w ^ k ∣ iPush U a b f gs t i ir := Int.dvd_add (Int.dvd_sub (Int.dvd_mul_of_dvd_right (up hU)) dvd) hz
  have pc : w ^ k ∣ iPace U a b f gs t i ir := Int.dvd_add (Int.dvd_add (up h.v) pu) hl
  exact ⟨⟨_, hZ'⟩, Int.dvd_add (Int.dvd_add (up h.x) pc) hs, pc, up y⟩
def fU (U : Int) (k : Int) : D := frD ((k : Rat) / (U : Rat))
theorem of_mul {U k : Int} {q : Rat} (hU : U ≠ 0) (h : q * (U : Rat) = (k : Rat)) : q = (k : Rat) / (U : Rat) := by
  have := icast_ne hU
  rw [← h]; grind
theorem rk_of {U k : Int} {n : Nat} {q : Rat} (hU : 0 < U) (hUb : U.natAbs < 2 ^ n) (hk : k.natAbs < 2 ^ n) (h : q * (U : Rat) = (k : Rat)) : Rk n q := by
  rw [of_mul (by omega) h]; exact rk_div hU hk hUb
structure RunR (U f : Int) (n K : Nat) (r : LRow) : Prop where
  rel : RelR U r (irow U r)
  l : pw2 f ^ n ∣ (irow U r).l
  s : pw2 f ^ n ∣ (irow U r).s
  m : pw2 f ^ (n + 1) ∣ (irow U r).m
  z : pw2 f ^ n ∣ (irow U r).z
  bd : BdR K (irow U r)
theorem BdR.up {k l : Nat} {i : IRow} (h : BdR k i) (hl : k ≤ l) : BdR l i := ⟨lt_up h.l hl, lt_up h.s hl, lt_up h.m hl, lt_up h.z hl⟩
theorem pow_dvd {w : Int} {k n : Nat} (h : k ≤ n) : w ^ k ∣ w ^ n := ⟨w ^ (n - k), by rw [← Int.pow_add]; congr 1; omega⟩
/-- a run: fractions and whole parts go together -/
theorem led_rel {U a b f : Int} {gs : List Int} {n K : Nat} (hU : 0 < U) (hUd : pw2 f ^ (n + 1) ∣ U) (hUb : U.natAbs < 2 ^ (K - 14)) (hK : 14 < K) (ha : a.natAbs < 2 ^ 13) (hb : b.natAbs < 2 ^ 13) (hg : ∀ x ∈ gs, -2000 ≤ x ∧ x ≤ 2000) :
    ∀ (rs : List LRow) (t k : Nat) (s : LSt) (i : ISt), t + k = n + 1 → rs.length ≤ k → K ≤ 300 → 24 * (t + rs.length) ≤ 390 → Rel U s i → Dv (pw2 f ^ k) i → Bd (K + 24 * t) i → (∀ r ∈ rs, RunR U f n K r) →
      LedOk a b f gs t s rs ∧ ledRows a b f gs t s rs = (iStates U a b f gs t i rs).map (fun r => .tup (r.map (fU U))) ∧ Rel U (ledEnd a b f gs t s rs) (iEnd U a b f gs t i rs) ∧ (∀ r ∈ iStates U a b f gs t i rs, ∀ x ∈ r, x.natAbs < 2 ^ 700) ∧ Bd 690 (iEnd U a b f gs t i rs)
  | [], t, k, s, i, _, _, hK3, hT, hrel, _, hbd, _ => ⟨trivial, rfl, hrel, fun r hr => (by cases hr), ⟨lt_up hbd.x (by simp at hT; omega), lt_up hbd.v (by simp at hT; omega), lt_up hbd.y0 (by simp at hT; omega)⟩⟩
  | r :: rs, t, 0, s, i, _, hl, _, _, _, _, _, _ => by simp at hl
  | r :: rs, t, k + 1, s, i, htk, hl, hK3, hT, hrel, hdv, hbd, hall => by
    have hr := hall r (List.mem_cons_self ..)
    simp only [List.length_cons] at hl hT
    have bg := gI_bd (B := 2000) (by decide) hg t
    have bw := W_bd (B := 2000) (by decide) hg t
    have hkn : k ≤ n := by omega
    obtain ⟨hd, hdv'⟩ := dv_step (a := a) (b := b) (gs := gs) (t := t) rfl (Int.dvd_trans (pow_dvd (by omega)) hUd) (Int.dvd_trans (pow_dvd hkn) hr.l) (Int.dvd_trans (pow_dvd hkn) hr.s) (Int.dvd_trans (pow_dvd (by omega)) hr.m) (Int.dvd_trans (pow_dvd hkn) hr.z) hdv
    obtain ⟨b1, b2, b3⟩ := bd_step (k := K + 24 * t) (by omega) (lt_up hUb (by omega)) (by omega) ha hb (by omega) (by omega) (by omega) hbd (hr.bd.up (by omega)) hd
    obtain ⟨e1, e2, e3, e4, e5⟩ := rel_step (a := a) (b := b) (gs := gs) (t := t) hrel hr.rel hd
    obtain ⟨j1, j2, j3, j4, j5⟩ := led_rel hU hUd hUb hK ha hb hg rs (t + 1) k (ledN a b f gs t s r) (iN U a b f gs t i (irow U r)) (by omega) (by omega) hK3 (by omega) e5 hdv' (by rw [show K + 24 * (t + 1) = K + 24 * t + 24 by omega]; exact b3) fun x hx => hall x (List.mem_cons_of_mem _ hx)
    have hUx : U.natAbs < 2 ^ 700 := lt_up hUb (by omega)
    have ey : (s.x + r.m) * (U : Rat) = ((i.x + (irow U r).m : Int) : Rat) := by rw [Rat.intCast_add, ← hrel.x, ← hr.rel.m]; grind
    have by1 : (i.x + (irow U r).m).natAbs < 2 ^ 700 := lt_up (natAbs_add_lt hbd.x (lt_up hr.bd.m (show K ≤ K + 24 * t by omega))) (by omega)
    have bK : ∀ {x : Int}, x.natAbs < 2 ^ (K + 24 * t) → x.natAbs < 2 ^ 700 := fun h => lt_up h (by omega)
    have bR : ∀ {x : Int}, x.natAbs < 2 ^ K → x.natAbs < 2 ^ 700 := fun h => lt_up h (by omega)
    have bu : (iPush U a b f gs t i (irow U r)).natAbs < 2 ^ 700 := lt_up b1 (by omega)
    refine ⟨⟨rk_of hU hUx (bK hbd.x) hrel.x, rk_of hU hUx (bK hbd.v) hrel.v, rk_of hU hUx (bK hbd.y0) hrel.y0, rk_of hU hUx by1 ey, rk_of hU hUx (bR hr.bd.l) hr.rel.l, rk_of hU hUx (bR hr.bd.s) hr.rel.s, rk_of hU hUx (bR hr.bd.m) hr.rel.m, rk_of hU hUx (bR hr.bd.z) hr.rel.z, rk_of hU hUx bu e1, rk_of hU hUx (lt_up (natAbs_add_lt (lt_up hbd.v (by omega)) b1) (by omega)) e2, rk_of hU hUx (lt_up b2 (by omega)) e3, rk_of hU hUx (lt_up (natAbs_add_lt (lt_up hbd.x (by omega)) b2) (by omega)) e4, j1⟩, ?_, j3, ?_, j5⟩
    · simp only [ledRows, iStates, List.map_cons, j2]
      congr 1
      unfold ledRow iState fU
      rw [of_mul (by omega) hrel.x, of_mul (by omega) hrel.v, of_mul (by omega) e1, ← of_mul (by omega) hrel.x, of_mul (by omega) ey]
      simp only [List.map_cons, List.map_nil]
      rw [of_mul (by omega) hrel.x]
    · intro x hx y hy
      simp only [iStates, List.mem_cons] at hx
      rcases hx with rfl | hx
      · simp only [iState, List.mem_cons, List.not_mem_nil, or_false] at hy
        rcases hy with rfl | rfl | rfl | rfl
        · exact bK hbd.x
        · exact bK hbd.v
        · exact by1
        · exact bu
      · exact j4 x hx y hy
theorem run_r {f l s q : Int} {n : Nat} {r : LRow} {U : Int} {K : Nat} (hf : 0 ≤ f) (hf8 : f ≤ 8) (hU : U = 12 * pw2 f ^ (n + 1)) (hUb : U.natAbs < 2 ^ (K - 14)) (hK : 14 < K) (hl : LB l s q) (h : RowOk f l s q r) : RunR U f n K r := by
  have hw := pw2_pos f
  have hU2 : U = pw2 f * (12 * pw2 f ^ n) := by rw [hU, Int.pow_succ, ← Int.mul_assoc, Int.mul_comm _ (pw2 f)]
  obtain ⟨_, kl, el, l1, l2⟩ := h.l
  obtain ⟨_, ks, es, s1, s2⟩ := h.s
  obtain ⟨_, km, em, m1, m2⟩ := h.m
  obtain ⟨_, kz, ez, z1, z2⟩ := h.z
  have e12 : ((12 : Int) : Rat) = 12 := rfl
  rw [← e12] at el es em
  have al := sc_of (W := pw2 f ^ (n + 1)) el
  have as := sc_of (W := pw2 f ^ (n + 1)) es
  have am := sc_of (W := pw2 f ^ (n + 1)) em
  have az := sc_of (W := 12 * pw2 f ^ n) ez
  rw [← hU] at al as am
  rw [← hU2] at az
  have := hl.l1; have := hl.s1; have := hl.q1; have := hl.l0; have := hl.s0; have := hl.q0
  have up : ∀ k : Int, pw2 f ^ n ∣ k * pw2 f ^ (n + 1) := fun k => ⟨k * pw2 f, by rw [Int.pow_succ]; rw [← Int.mul_assoc, ← Int.mul_assoc, Int.mul_comm k, ]⟩
  have sm : ∀ k B : Int, 0 ≤ B → B ≤ 1000 → -(12 * B) ≤ k → k ≤ 12 * B → (k * pw2 f ^ (n + 1)).natAbs < 2 ^ K := by
    intro k B h0 h1 h2 h3
    have hp : (pw2 f ^ (n + 1)).natAbs * 12 = U.natAbs := by rw [hU, Int.natAbs_mul]; simp [Nat.mul_comm]
    rw [Int.natAbs_mul]
    have hk : k.natAbs ≤ 12000 := by omega
    have : 2 ^ K = 2 ^ (K - 14) * 2 ^ 14 := by rw [← Nat.pow_add]; congr 1; omega
    rw [this]
    calc k.natAbs * (pw2 f ^ (n + 1)).natAbs ≤ 12000 * (pw2 f ^ (n + 1)).natAbs := Nat.mul_le_mul_right _ hk
      _ = 1000 * U.natAbs := by omega
      _ ≤ 2 ^ 14 * U.natAbs := Nat.mul_le_mul_right _ (by decide)
      _ < 2 ^ (K - 14) * 2 ^ 14 := by rw [Nat.mul_comm]; exact Nat.mul_lt_mul_of_pos_right hUb (by decide)
  refine ⟨⟨al.2.trans ?_, as.2.trans ?_, am.2.trans ?_, az.2.trans ?_⟩, ?_, ?_, ?_, ?_, ⟨?_, ?_, ?_, ?_⟩⟩
  · show _ = ((sc U r.l : Int) : Rat); rw [al.1]
  · show _ = ((sc U r.s : Int) : Rat); rw [as.1]
  · show _ = ((sc U r.m : Int) : Rat); rw [am.1]
  · show _ = ((sc U r.z : Int) : Rat); rw [az.1]
  · show _ ∣ sc U r.l; rw [al.1]; exact up _
  · show _ ∣ sc U r.s; rw [as.1]; exact up _
  · show _ ∣ sc U r.m; rw [am.1]; exact ⟨km, Int.mul_comm _ _⟩
  · show _ ∣ sc U r.z; rw [az.1]; exact ⟨kz * 12, by rw [Int.mul_comm (pw2 f ^ n), Int.mul_assoc]⟩
  · show (sc U r.l).natAbs < _; rw [al.1]; exact sm _ l hl.l0 hl.l1 l1 l2
  · show (sc U r.s).natAbs < _; rw [as.1]; exact sm _ s hl.s0 hl.s1 s1 s2
  · show (sc U r.m).natAbs < _; rw [am.1]; exact sm _ q hl.q0 hl.q1 m1 m2
  · show (sc U r.z).natAbs < _; rw [az.1]
    have : kz.natAbs ≤ (pw2 f).natAbs := by omega
    have e2 : (kz * (12 * pw2 f ^ n)).natAbs ≤ U.natAbs := by
      rw [hU2, Int.natAbs_mul, Int.natAbs_mul (pw2 f)]
      exact Nat.mul_le_mul_right _ this
    exact Nat.lt_of_le_of_lt e2 (lt_up hUb (by omega))
/-! ### the law's look at a fraction -/
def sameC (jm : Nat) : List CS := [.if_ (.cor (.cnot (.cval (.isi .tuple (.var 0)))) (.cor (.ccmp .NotEq (.bi .len false [(.var 0)]) (.con (.int 2))) (.ccmp .NotEq (.lc false (.isi .bool (.var 3)) (.name 3) (.seq (.var 0)) [] [3]) (.bin .Mult false (.lst false [(.con (.bl false))]) (.con (.int 2)))))) [.ret (.con (.bl false))] [],
  .if_ (.cor (.cnot (.cval (.isi .int (.ix (.var 0) (.con (.int 0)))))) (.cnot (.cval (.isi .int (.ix (.var 0) (.con (.int 1))))))) [.ret (.con (.bl false))] [],
  .ret (.cmp .Eq (.bi .repr1 false [(.var 0)]) (.bi .repr1 false [(.call jm [(.var 1), (.var 2)])]))]
def spSame (ds : List D) (S : DStore) (Q : QE) : Prop := ∃ (q : Rat) (n d : Int), ds = [frD q, .int n, .int d] ∧ 0 < d ∧ d.natAbs < 2 ^ 8000 ∧ q * (d : Rat) = (n : Rat) ∧ Rk 1500 q ∧ Q (.bl true) S
theorem spSame_len : ∀ ds S Q, spSame ds S Q → ds.length = 3 := by rintro _ _ _ ⟨_, _, _, rfl, _⟩; rfl
theorem fr_pur {S : DStore} (q : Rat) : purS S (frD q) = some (.tuple [.int q.num, .int q.den]) := rfl
theorem fr_ok {q : Rat} (h : Rk 1500 q) : okW (.tuple [.int q.num, .int q.den]) = true := by
  simp only [okW, okWs, Bool.and_eq_true, decide_eq_true_eq, and_true]
  exact ⟨wide_of h.n (by decide), by have := wide_of (i := (q.den : Int)) (k := 1500) (by simpa using h.d) (by decide); exact this⟩
theorem reprW4 {S : DStore} {m : Bool} {d : D} {p : PyData} {Q : QE} (e : purS S d = some p) (h : okW p = true) (q : Q (.str p.shown) S) (hs : (szW p).ble 16000000 = true := by rfl) (hd : p.depth.ble 50 = true := by rfl) : biD .repr1 m [d] S Q :=
  reprW e h (Nat.le_of_ble_eq_true hs) (Nat.le_of_ble_eq_true hd) q
theorem purs_map {α : Type} (mk : α → D) (p : α → PyData) (l : List α) (h : ∀ x ∈ l, pur (mk x) = some (p x)) : purs (l.map mk) = some (l.map p) := by
  induction l with
  | nil => rfl
  | cons x l ih => simp only [List.map_cons, purs, h x (List.mem_cons_self ..), ih fun y hy => h y (List.mem_cons_of_mem _ hy)]; rfl
def frP (q : Rat) : PyData := .tuple [.int q.num, .int q.den]
def rowP (r : LRow) : PyData := .tuple [frP r.l, frP r.s, frP r.m, frP r.z]
theorem tup_pur {α : Type} {S : DStore} (mk : α → D) (p : α → PyData) (l : List α) (h : ∀ x ∈ l, pur (mk x) = some (p x)) : purS S (.tup (l.map mk)) = some (.tuple (l.map p)) := by
  have := purs_map mk p l h
  simp only [purS, pur, this]; rfl
theorem okWs_map {α : Type} (p : α → PyData) (l : List α) (h : ∀ x ∈ l, okW (p x) = true) : okWs (l.map p) = true := by
  induction l with
  | nil => rfl
  | cons x l ih => simp only [List.map_cons, okWs, h x (List.mem_cons_self ..), ih fun y hy => h y (List.mem_cons_of_mem _ hy)]; rfl
theorem szWs_map {α : Type} (p : α → PyData) (c : Nat) (l : List α) (h : ∀ x ∈ l, szW (p x) ≤ c) : szWs (l.map p) ≤ (c + 2) * l.length := by
  induction l with
  | nil => exact Nat.zero_le _
  | cons x l ih =>
    have h1 := h x (List.mem_cons_self ..)
    have h2 := ih fun y hy => h y (List.mem_cons_of_mem _ hy)
    simp only [List.map_cons, szWs, List.length_cons, Nat.mul_add]
    omega
theorem dep_map {α : Type} (p : α → PyData) (c : Nat) (l : List α) (h : ∀ x ∈ l, (p x).depth ≤ c) : PyData.depthAll (l.map p) ≤ c := by
  induction l with
  | nil => exact Nat.zero_le _
  | cons x l ih =>
    have h1 := h x (List.mem_cons_self ..)
    have h2 := ih fun y hy => h y (List.mem_cons_of_mem _ hy)
    simp only [List.map_cons, PyData.depthAll]
    omega
/-- the text of a tuple of things alike -/
theorem repr_map {α : Type} {S : DStore} {m : Bool} {Q : QE} (mk : α → D) (p : α → PyData) (c e n : Nat) (l : List α) (h : ∀ x ∈ l, pur (mk x) = some (p x)) (ho : ∀ x ∈ l, okW (p x) = true) (hs : ∀ x ∈ l, szW (p x) ≤ c) (hd : ∀ x ∈ l, (p x).depth ≤ e) (hl : l.length ≤ n) (q : Q (.str (PyData.tuple (l.map p)).shown) S) (hn : ((c + 2) * n).ble 15000000 = true := by rfl) (he : e.ble 49 = true := by rfl) : biD .repr1 m [.tup (l.map mk)] S Q := by
  have h1 := szWs_map p c l hs
  have h2 := dep_map p e l hd
  have h3 := Nat.le_of_ble_eq_true hn
  have h4 := Nat.le_of_ble_eq_true he
  have h5 : (c + 2) * l.length ≤ (c + 2) * n := Nat.mul_le_mul_left _ hl
  refine reprW (tup_pur mk p l h) (okWs_map p l ho) ?_ ?_ q
  · show szWs (l.map p) + 8 ≤ _
    omega
  · show PyData.depthAll (l.map p) + 1 ≤ 50
    omega
theorem repr_rows {S : DStore} {m : Bool} {Q : QE} {rs : List LRow} (hl : rs.length ≤ 100) (h : ∀ r ∈ rs, Rk20 r) (q : Q (.str (PyData.tuple (rs.map rowP)).shown) S) : biD .repr1 m [.tup (rs.map LRow.D)] S Q := by
  refine repr_map LRow.D rowP 5000 10 100 rs (fun x _ => rfl) (fun r hr => ?_) (fun r _ => Nat.le_of_ble_eq_true rfl) (fun r _ => Nat.le_of_ble_eq_true rfl) hl q
  have := h r hr
  have k : ∀ {q : Rat}, Rk 20 q → okW (frP q) = true := fun h => fr_ok (h.mono (by decide))
  simp only [rowP, okW, okWs, k this.l, k this.s, k this.m, k this.z]; rfl
theorem repr_frows {U : Int} {S : DStore} {m : Bool} {Q : QE} {R : List (List Int)} (hU0 : 0 < U) (hU : U.natAbs < 2 ^ 700) (hl : R.length ≤ 100) (hb : ∀ r ∈ R, ∀ x ∈ r, x.natAbs < 2 ^ 700) (hn : ∀ r ∈ R, r.length ≤ 4) (q : Q (.str (PyData.tuple (R.map fun r => .tuple (r.map fun (k : Int) => frP ((k : Rat) / (U : Rat))))).shown) S) : biD .repr1 m [.tup (R.map fun r => .tup (r.map (fU U)))] S Q := by
  refine repr_map (fun r : List Int => D.tup (r.map (fU U))) (fun r => .tuple (r.map fun (k : Int) => frP ((k : Rat) / (U : Rat)))) 5000 10 100 R (fun x _ => ?_) (fun r hr => ?_) (fun r hr => ?_) (fun r hr => ?_) hl q
  · have := purs_map (fU U) (fun k => frP ((k : Rat) / (U : Rat))) x fun k _ => rfl
    simp only [pur, this]; rfl
  · exact okWs_map _ _ fun k hk => fr_ok ((rk_div hU0 (hb r hr k hk) hU).mono (by decide))
  · have := szWs_map (fun (k : Int) => frP ((k : Rat) / (U : Rat))) 1100 r fun k _ => Nat.le_of_ble_eq_true rfl
    have h4 := hn r hr
    show szWs _ + 8 ≤ 5000
    omega
  · have := dep_map (fun (k : Int) => frP ((k : Rat) / (U : Rat))) 5 r fun k _ => Nat.le_of_ble_eq_true rfl
    show PyData.depthAll _ + 1 ≤ 10
    omega
theorem zipD_map {α : Type} (A B : α → D) (l : List α) : zipD (l.map A) (l.map B) = l.map fun x => .tup [A x, B x] := by
  unfold zipD
  rw [List.zip_map, List.map_map]
  induction l with
  | nil => rfl
  | cons x l ih => simp only [List.zip_cons_cons, List.map_cons, ih]; rfl
theorem same_ok {G : Fns} {jm : Nat} (hm : G.fn jm = spMade) : ∀ ds S Q, spSame ds S Q → wpSs G (sameC jm) (startD 4 ds) S { nx := fun _ S' => Q .non S', rt := Q } := by
  rintro ds S Q ⟨q, n, d, rfl, h0, hb, he, hk, hQ⟩
  have e1 : ∀ {Q : QE}, biD .len false [frD q] S Q = Q (.int 2) S := by intro Q; unfold frD; rw [f_lenT]; rfl
  have e2 : ∀ {t : TyB} {Q : QE}, isiP t (frD q) S Q = Q (.bl (isiD t (frD q))) S := by intro t Q; unfold frD; rw [y_tup]
  have e3 : isiD .tuple (frD q) = true := rfl
  have e4 : ∀ {R : RI}, itD S (frD q) R = R [.int q.num, .int q.den] (fun _ => True) S := by intro R; unfold frD; rw [t_tup]
  unfold sameC
  simp_arith only [e1, e2, e3, e4, x_fr0, x_fr1]
  refine gather_run (by show 2 ≤ sizeLine; decide) ?_
  simp only [gW, DL.lcTurn]
  refine ⟨by simp, ?_⟩
  (try simp_arith only [])
  refine ⟨by simp, by simp, by decide, by decide, by decide, ?_⟩
  have er : (List.replicate (2 : Int).toNat [D.bl false]).flatten = [.bl false, .bl false] := rfl
  rw [er]
  refine ne_same (p := .list [.bool false, .bool false]) (fun _ z => nomatch z) (fun _ z => nomatch z) (fun _ z => nomatch z) rfl rfl ?_
  (try simp_arith only [hm])
  refine reprW4 (fr_pur q) (fr_ok hk) ?_
  refine madeF h0 hb (by decide) ?_
  rw [← of_mul (by omega) he]
  refine reprW4 (fr_pur q) (fr_ok hk) ?_
  (try simp_arith only [])
  exact hQ
end DL

namespace DL
open PySem PySem.Spec PyProof.Rows L2
/-! ### what a beat's inputs do, by fractions -/
structure RSt where
  x : Rat
  v : Rat
  y : Rat
def zr : LRow := ⟨0, 0, 0, 0⟩
def z0 : RSt := ⟨0, 0, 0⟩
section
variable (a b f : Int)
def dSm (s : RSt) (r : LRow) : Rat := (a : Rat) * (s.x + r.m) + (b : Rat) * (s.x + r.m - s.y)
def dPu (s : RSt) (r : LRow) : Rat := r.z - dSm a b s r / (pw2 f : Rat)
def dPa (s : RSt) (r : LRow) : Rat := s.v + dPu a b f s r + r.l
def dN (s : RSt) (r : LRow) : RSt := ⟨s.x + dPa a b f s r + r.s, dPa a b f s r, s.x + r.m⟩
/-- a size of the ten -/
def dSz (s : RSt) (r : LRow) : Nat → Rat
  | 0 => s.x
  | 1 => dPa a b f s r + r.s
  | 2 => dPu a b f s r
  | 3 => s.x + r.m
  | 4 => s.x + r.m - s.y
  | 5 => (a : Rat) * (s.x + r.m)
  | 6 => (b : Rat) * (s.x + r.m - s.y)
  | 7 => dSm a b s r
  | 8 => -dPu a b f s r
  | 9 => dPu a b f s r
  | _ => 0
def dIt : Nat → RSt → RSt
  | 0, s => s
  | k + 1, s => dIt k (dN a b f s zr)
/-- the answer to a row, so many beats behind -/
def dA (r : LRow) : Nat → Nat → Rat
  | 0, at' => dSz a b f z0 r at'
  | k + 1, at' => dSz a b f (dIt a b f k (dN a b f z0 r)) zr at'
/-- a size at a beat of a run -/
def dAt : Nat → RSt → List LRow → Nat → Rat
  | _, s, [], at' => dSz a b f s zr at'
  | 0, s, r :: _, at' => dSz a b f s r at'
  | j + 1, s, r :: rs, at' => dAt j (dN a b f s r) rs at'
def conv (at' : Nat) : Nat → List LRow → Rat
  | _, [] => 0
  | 0, r :: _ => dA a b f r 0 at'
  | j + 1, r :: rs => dA a b f r (j + 1) at' + conv at' j rs
end
def RSt.add (s t : RSt) : RSt := ⟨s.x + t.x, s.v + t.v, s.y + t.y⟩
def RSt.mul (c : Rat) (s : RSt) : RSt := ⟨c * s.x, c * s.v, c * s.y⟩
def LRow.add (s t : LRow) : LRow := ⟨s.l + t.l, s.s + t.s, s.m + t.m, s.z + t.z⟩
def LRow.mul (c : Rat) (s : LRow) : LRow := ⟨c * s.l, c * s.s, c * s.m, c * s.z⟩
section
variable {a b f : Int}
theorem w_ne (f : Int) : (pw2 f : Rat) ≠ 0 := icast_ne (by have := pw2_pos f; omega)
theorem dSm_add (s t : RSt) (r q : LRow) : dSm a b (s.add t) (r.add q) = dSm a b s r + dSm a b t q := by
  unfold dSm RSt.add LRow.add; simp only; grind
theorem dPu_add (s t : RSt) (r q : LRow) : dPu a b f (s.add t) (r.add q) = dPu a b f s r + dPu a b f t q := by
  have := w_ne f
  unfold dPu
  rw [dSm_add]
  unfold LRow.add
  simp only
  grind
theorem dPa_add (s t : RSt) (r q : LRow) : dPa a b f (s.add t) (r.add q) = dPa a b f s r + dPa a b f t q := by
  unfold dPa
  rw [dPu_add]
  unfold RSt.add LRow.add
  simp only
  grind
theorem dN_add (s t : RSt) (r q : LRow) : dN a b f (s.add t) (r.add q) = (dN a b f s r).add (dN a b f t q) := by
  unfold dN
  rw [dPa_add]
  unfold RSt.add LRow.add
  simp only [RSt.mk.injEq]
  refine ⟨?_, trivial, ?_⟩ <;> grind
theorem dSz_add (s t : RSt) (r q : LRow) (at' : Nat) : dSz a b f (s.add t) (r.add q) at' = dSz a b f s r at' + dSz a b f t q at' := by
  match at' with
  | 0 => rfl
  | 1 =>
    show dPa a b f (s.add t) (r.add q) + (r.s + q.s) = (dPa a b f s r + r.s) + (dPa a b f t q + q.s)
    rw [dPa_add]; grind
  | 2 => simp only [dSz, dPu_add]
  | 3 => simp only [dSz, RSt.add, LRow.add]; grind
  | 4 => simp only [dSz, RSt.add, LRow.add]; grind
  | 5 => simp only [dSz, RSt.add, LRow.add]; grind
  | 6 => simp only [dSz, RSt.add, LRow.add]; grind
  | 7 => simp only [dSz, dSm_add]
  | 8 => simp only [dSz, dPu_add]; grind
  | 9 => simp only [dSz, dPu_add]
  | n + 10 => simp only [dSz]; grind
theorem dPu_mul (c : Rat) (s : RSt) (r : LRow) : dPu a b f (s.mul c) (r.mul c) = c * dPu a b f s r := by
  have := w_ne f
  unfold dPu dSm RSt.mul LRow.mul
  simp only
  grind
theorem dPa_mul (c : Rat) (s : RSt) (r : LRow) : dPa a b f (s.mul c) (r.mul c) = c * dPa a b f s r := by
  unfold dPa
  rw [dPu_mul]
  unfold RSt.mul LRow.mul
  simp only
  grind
theorem dN_mul (c : Rat) (s : RSt) (r : LRow) : dN a b f (s.mul c) (r.mul c) = (dN a b f s r).mul c := by
  unfold dN
  rw [dPa_mul]
  unfold RSt.mul LRow.mul
  simp only [RSt.mk.injEq]
  refine ⟨?_, trivial, ?_⟩ <;> grind
theorem dSz_mul (c : Rat) (s : RSt) (r : LRow) (at' : Nat) : dSz a b f (s.mul c) (r.mul c) at' = c * dSz a b f s r at' := by
  match at' with
  | 0 => rfl
  | 1 =>
    show dPa a b f (s.mul c) (r.mul c) + c * r.s = c * (dPa a b f s r + r.s)
    rw [dPa_mul]; grind
  | 2 => simp only [dSz, dPu_mul]
  | 3 => simp only [dSz, RSt.mul, LRow.mul]; grind
  | 4 => simp only [dSz, RSt.mul, LRow.mul]; grind
  | 5 => simp only [dSz, RSt.mul, LRow.mul]; grind
  | 6 => simp only [dSz, RSt.mul, LRow.mul]; grind
  | 7 => simp only [dSz, dSm, RSt.mul, LRow.mul]; grind
  | 8 => simp only [dSz, dPu_mul]; grind
  | 9 => simp only [dSz, dPu_mul]
  | n + 10 => simp only [dSz]; grind
theorem zr_add (r : LRow) : zr.add r = r := by unfold zr LRow.add; simp only [Rat.zero_add]
theorem add_zr (r : LRow) : r.add zr = r := by unfold zr LRow.add; simp only [Rat.add_zero]
theorem z0_add (r : RSt) : z0.add r = r := by unfold z0 RSt.add; simp only [Rat.zero_add]
theorem add_z0 (r : RSt) : r.add z0 = r := by unfold z0 RSt.add; simp only [Rat.add_zero]
theorem zr_mul (c : Rat) : zr.mul c = zr := by unfold zr LRow.mul; simp only [Rat.mul_zero]
theorem z0_mul (c : Rat) : z0.mul c = z0 := by unfold z0 RSt.mul; simp only [Rat.mul_zero]
theorem dIt_add : ∀ (k : Nat) (s t : RSt), dIt a b f k (s.add t) = (dIt a b f k s).add (dIt a b f k t)
  | 0, _, _ => rfl
  | k + 1, s, t => by
    have h := dN_add (a := a) (b := b) (f := f) s t zr zr
    rw [zr_add] at h
    simp only [dIt, h]
    exact dIt_add k _ _
theorem dIt_mul (c : Rat) : ∀ (k : Nat) (s : RSt), dIt a b f k (s.mul c) = (dIt a b f k s).mul c
  | 0, _ => rfl
  | k + 1, s => by
    have h := dN_mul (a := a) (b := b) (f := f) c s zr
    rw [zr_mul] at h
    simp only [dIt, h]
    exact dIt_mul c k _
theorem dA_add (r q : LRow) (k at' : Nat) : dA a b f (r.add q) k at' = dA a b f r k at' + dA a b f q k at' := by
  cases k with
  | zero => have := dSz_add (a := a) (b := b) (f := f) z0 z0 r q at'; rw [z0_add] at this; exact this
  | succ k =>
    have h := dN_add (a := a) (b := b) (f := f) z0 z0 r q
    rw [z0_add] at h
    have h2 := dSz_add (a := a) (b := b) (f := f) (dIt a b f k (dN a b f z0 r)) (dIt a b f k (dN a b f z0 q)) zr zr at'
    rw [zr_add] at h2
    simp only [dA, h, dIt_add, h2]
theorem dA_mul (c : Rat) (r : LRow) (k at' : Nat) : dA a b f (r.mul c) k at' = c * dA a b f r k at' := by
  cases k with
  | zero => have := dSz_mul (a := a) (b := b) (f := f) c z0 r at'; rw [z0_mul] at this; exact this
  | succ k =>
    have h := dN_mul (a := a) (b := b) (f := f) c z0 r
    rw [z0_mul] at h
    have h2 := dSz_mul (a := a) (b := b) (f := f) c (dIt a b f k (dN a b f z0 r)) zr at'
    rw [zr_mul] at h2
    simp only [dA, h, dIt_mul, h2]
/-- one unit of a kind -/
def eK : Nat → LRow
  | 0 => ⟨1, 0, 0, 0⟩
  | 1 => ⟨0, 1, 0, 0⟩
  | 2 => ⟨0, 0, 1, 0⟩
  | 3 => ⟨0, 0, 0, 1⟩
  | _ => zr
theorem dA_row (r : LRow) (k at' : Nat) : dA a b f r k at' = r.l * dA a b f (eK 0) k at' + r.s * dA a b f (eK 1) k at' + r.m * dA a b f (eK 2) k at' + r.z * dA a b f (eK 3) k at' := by
  have e : r = ((((eK 0).mul r.l).add ((eK 1).mul r.s)).add ((eK 2).mul r.m)).add ((eK 3).mul r.z) := by
    cases r
    simp only [eK, LRow.mul, LRow.add, LRow.mk.injEq]
    refine ⟨?_, ?_, ?_, ?_⟩ <;> grind
  conv => lhs; rw [e]
  simp only [dA_add, dA_mul]
theorem dAt_sum (at' : Nat) : ∀ (j : Nat) (s : RSt) (rs : List LRow), j ≤ rs.length → dAt a b f j s rs at' = dSz a b f (dIt a b f j s) zr at' + conv a b f at' j rs
  | j, s, [], h => by
    have : j = 0 := by simpa using h
    subst this
    simp only [dAt, dIt, conv, Rat.add_zero]
  | 0, s, r :: rs, _ => by
    have := dSz_add (a := a) (b := b) (f := f) s z0 zr r at'
    rw [add_z0, zr_add] at this
    simp only [dAt, dIt, conv, dA, this]
  | j + 1, s, r :: rs, h => by
    have h1 := dAt_sum at' j (dN a b f s r) rs (by simpa using h)
    have h2 := dN_add (a := a) (b := b) (f := f) s z0 zr r
    rw [add_z0, zr_add] at h2
    have h3 := dSz_add (a := a) (b := b) (f := f) (dIt a b f j (dN a b f s zr)) (dIt a b f j (dN a b f z0 r)) zr zr at'
    rw [zr_add] at h3
    simp only [dAt, h1, conv, dA, dIt]
    rw [h2, dIt_add, h3]
    grind
theorem dN_z0 : dN a b f z0 zr = z0 := by
  have h := dN_mul (a := a) (b := b) (f := f) 0 z0 zr
  rw [z0_mul, zr_mul] at h
  rw [h]
  unfold RSt.mul z0
  simp only [Rat.zero_mul]
theorem dIt_z0 : ∀ k, dIt a b f k z0 = z0
  | 0 => rfl
  | k + 1 => by simp only [dIt, dN_z0]; exact dIt_z0 k
theorem dSz_z0 (at' : Nat) : dSz a b f z0 zr at' = 0 := by
  have h := dSz_mul (a := a) (b := b) (f := f) 0 z0 zr at'
  rw [z0_mul, zr_mul, Rat.zero_mul] at h
  exact h
theorem dAt_z0 {at' j : Nat} {rs : List LRow} (h : j ≤ rs.length) : dAt a b f j z0 rs at' = conv a b f at' j rs := by
  rw [dAt_sum at' j z0 rs h, dIt_z0, dSz_z0, Rat.zero_add]
end
/-! ### in whole parts -/
def nou (gs : List Int) (at' : Nat) (t : Int) : Int := if at' = 1 then pcW gs (t + 1) else if at' = 2 ∨ at' = 9 then ltW gs t - pcW gs t else 0
structure RelG (U : Int) (gs : List Int) (t : Nat) (d : RSt) (i : ISt) : Prop where
  x : (i.x : Rat) = (U : Rat) * (d.x + (gI gs t : Rat))
  v : (i.v : Rat) = (U : Rat) * (d.v + (pcW gs t : Rat))
  y : (i.y0 : Rat) = (U : Rat) * (d.y + (gI gs t : Rat) - (pcW gs t : Rat))
theorem sum_g {U a b : Int} {gs : List Int} {t : Nat} {d : RSt} {i : ISt} {r : LRow} {ir : IRow} (h : RelG U gs t d i) (hr : RelR U r ir) : (iSum U a b gs t i ir : Rat) = (U : Rat) * dSm a b d r := by
  unfold iSum dSm
  simp only [Rat.intCast_add, Rat.intCast_mul, Rat.intCast_sub]
  rw [h.x, h.y, ← hr.m]
  grind
theorem push_g {U a b f : Int} {gs : List Int} {t : Nat} {d : RSt} {i : ISt} {r : LRow} {ir : IRow} (h : RelG U gs t d i) (hr : RelR U r ir) (hd : pw2 f ∣ iSum U a b gs t i ir) :
    (iPush U a b f gs t i ir : Rat) = (U : Rat) * (dPu a b f d r + ((ltW gs t - pcW gs t : Int) : Rat)) := by
  have hs := sum_g (a := a) (b := b) h hr
  obtain ⟨Z, hZ⟩ := hd
  have hw := pw2_pos f
  have w0 := w_ne f
  unfold iPush
  rw [hZ, Int.mul_ediv_cancel_left _ (by omega)]
  have e : ((pw2 f * Z : Int) : Rat) = (U : Rat) * dSm a b d r := by rw [← hs, hZ]
  unfold dPu
  simp only [Rat.intCast_add, Rat.intCast_mul, Rat.intCast_sub] at e ⊢
  rw [← hr.z]
  generalize (pw2 f : Rat) = w at *
  generalize (Z : Rat) = z' at *
  grind
theorem pace_g {U a b f : Int} {gs : List Int} {t : Nat} {d : RSt} {i : ISt} {r : LRow} {ir : IRow} (h : RelG U gs t d i) (hr : RelR U r ir) (hd : pw2 f ∣ iSum U a b gs t i ir) (hV : pcW gs (t + 1 : Nat) = ltW gs t) :
    (iPace U a b f gs t i ir : Rat) = (U : Rat) * (dPa a b f d r + (pcW gs (t + 1 : Nat) : Rat)) := by
  have hp := push_g (a := a) (b := b) h hr hd
  unfold iPace dPa
  rw [hV]
  simp only [Rat.intCast_add, Rat.intCast_sub] at hp ⊢
  rw [hp, h.v, ← hr.l]
  grind
theorem next_g {U a b f : Int} {gs : List Int} {t : Nat} {d : RSt} {i : ISt} {r : LRow} {ir : IRow} (h : RelG U gs t d i) (hr : RelR U r ir) (hd : pw2 f ∣ iSum U a b gs t i ir) (hV : pcW gs (t + 1 : Nat) = ltW gs t) (hX : gI gs (t + 1 : Nat) = gI gs t + pcW gs (t + 1 : Nat)) :
    RelG U gs (t + 1) (dN a b f d r) (iN U a b f gs t i ir) := by
  have hp := pace_g (a := a) (b := b) h hr hd hV
  refine ⟨?_, hp, ?_⟩
  · show ((i.x + iPace U a b f gs t i ir + ir.s : Int) : Rat) = _
    rw [hX]
    unfold dN
    simp only [Rat.intCast_add] at hp ⊢
    rw [hp, h.x, ← hr.s]
    grind
  · show ((i.x + ir.m : Int) : Rat) = _
    rw [hX]
    unfold dN
    simp only [Rat.intCast_add]
    rw [h.x, ← hr.m]
    grind
theorem size_g {U a b f : Int} {gs : List Int} {t : Nat} {d : RSt} {i : ISt} {r : LRow} {ir : IRow} (h : RelG U gs t d i) (hr : RelR U r ir) (hd : pw2 f ∣ iSum U a b gs t i ir) (hV : pcW gs (t + 1 : Nat) = ltW gs t) (at' : Nat) (h10 : at' < 10) :
    ∃ v, (iSize U a b f gs t i ir)[at']? = some v ∧ (v : Rat) = (U : Rat) * ((nou gs at' t : Rat) + dSz a b f d r at') := by
  have h1 := push_g (a := a) (b := b) h hr hd
  have h2 := pace_g (a := a) (b := b) h hr hd hV
  have h3 := sum_g (a := a) (b := b) h hr
  have e1 : ((t : Int) + 1) = ((t + 1 : Nat) : Int) := by simp
  have n0 : ∀ k, k ≠ 1 → k ≠ 2 → k ≠ 9 → nou gs k t = 0 := fun k a b c => by unfold nou; rw [if_neg a, if_neg (by omega)]
  match at', h10 with
  | 0, _ =>
    refine ⟨_, rfl, ?_⟩
    rw [n0 0 (by decide) (by decide) (by decide)]
    simp only [dSz, Rat.intCast_sub, Rat.intCast_mul, Rat.intCast_zero]
    rw [h.x]; grind
  | 1, _ =>
    refine ⟨_, rfl, ?_⟩
    have : nou gs 1 t = pcW gs (t + 1 : Nat) := by unfold nou; rw [if_pos rfl, e1]
    rw [this]
    simp only [dSz, Rat.intCast_add]
    rw [h2, ← hr.s]; grind
  | 2, _ =>
    refine ⟨_, rfl, ?_⟩
    have : nou gs 2 t = ltW gs t - pcW gs t := by unfold nou; rw [if_neg (by decide), if_pos (.inl rfl)]
    rw [this]
    simp only [dSz]
    rw [h1]; grind
  | 3, _ =>
    refine ⟨_, rfl, ?_⟩
    rw [n0 3 (by decide) (by decide) (by decide)]
    simp only [dSz, Rat.intCast_sub, Rat.intCast_mul, Rat.intCast_zero, Rat.intCast_add]
    rw [h.x, ← hr.m]; grind
  | 4, _ =>
    refine ⟨_, rfl, ?_⟩
    rw [n0 4 (by decide) (by decide) (by decide)]
    simp only [dSz, Rat.intCast_sub, Rat.intCast_mul, Rat.intCast_zero, Rat.intCast_add]
    rw [h.x, h.y, ← hr.m]; grind
  | 5, _ =>
    refine ⟨_, rfl, ?_⟩
    rw [n0 5 (by decide) (by decide) (by decide)]
    simp only [dSz, Rat.intCast_sub, Rat.intCast_mul, Rat.intCast_zero, Rat.intCast_add]
    rw [h.x, ← hr.m]; grind
  | 6, _ =>
    refine ⟨_, rfl, ?_⟩
    rw [n0 6 (by decide) (by decide) (by decide)]
    simp only [dSz, Rat.intCast_sub, Rat.intCast_mul, Rat.intCast_zero, Rat.intCast_add]
    rw [h.x, h.y, ← hr.m]; grind
  | 7, _ =>
    refine ⟨_, rfl, ?_⟩
    rw [n0 7 (by decide) (by decide) (by decide)]
    simp only [dSz, Rat.intCast_zero]
    rw [h3]; grind
  | 8, _ =>
    refine ⟨_, rfl, ?_⟩
    rw [n0 8 (by decide) (by decide) (by decide)]
    simp only [dSz, Rat.intCast_sub, Rat.intCast_mul, Rat.intCast_zero] at h1 ⊢
    rw [h1]; grind
  | 9, _ =>
    refine ⟨_, rfl, ?_⟩
    have : nou gs 9 t = ltW gs t - pcW gs t := by unfold nou; rw [if_neg (by decide), if_pos (.inr rfl)]
    rw [this]
    simp only [dSz]
    rw [h1]; grind
end DL

namespace DL
open PySem PySem.Spec PyProof.Rows L2
/-! ### runs in whole parts -/
theorem size_bd {U a b f : Int} {gs : List Int} {t k : Nat} {i : ISt} {ir : IRow} (hk : 0 < k) (hU : U.natAbs < 2 ^ (k - 14)) (hk12 : 14 ≤ k) (ha : a.natAbs < 2 ^ 13) (hb : b.natAbs < 2 ^ 13) (hg : (gI gs t).natAbs < 2 ^ 14) (hp : (pcW gs t).natAbs < 2 ^ 14) (hl : (ltW gs t - pcW gs t).natAbs < 2 ^ 14) (h : Bd k i) (hr : BdR k ir) (hd : pw2 f ∣ iSum U a b gs t i ir) :
    ∀ v ∈ iSize U a b f gs t i ir, v.natAbs < 2 ^ (k + 24) := by
  have gU : (gI gs t * U).natAbs < 2 ^ k := by have := natAbs_mul_lt hg hU; rwa [show 14 + (k - 14) = k by omega] at this
  have pU : (pcW gs t * U).natAbs < 2 ^ k := by have := natAbs_mul_lt hp hU; rwa [show 14 + (k - 14) = k by omega] at this
  have lU : ((ltW gs t - pcW gs t) * U).natAbs < 2 ^ k := by have := natAbs_mul_lt hl hU; rwa [show 14 + (k - 14) = k by omega] at this
  have y : (i.x + ir.m).natAbs < 2 ^ (k + 1) := natAbs_add_lt h.x hr.m
  have n0 : (i.x + ir.m - gI gs t * U).natAbs < 2 ^ (k + 2) := natAbs_sub_lt y (lt_up gU (by omega))
  have n1 : (i.x + ir.m - i.y0 - pcW gs t * U).natAbs < 2 ^ (k + 3) := natAbs_sub_lt (natAbs_sub_lt y (lt_up h.y0 (by omega))) (lt_up pU (by omega))
  have m0 := lt_up (natAbs_mul_lt ha n0) (show 13 + (k + 2) ≤ k + 16 by omega)
  have m1 := lt_up (natAbs_mul_lt hb n1) (show 13 + (k + 3) ≤ k + 16 by omega)
  have sm : (iSum U a b gs t i ir).natAbs < 2 ^ (k + 17) := natAbs_add_lt m0 m1
  obtain ⟨pu, pc, _⟩ := bd_step hk hU hk12 ha hb hg hp hl h hr hd
  intro v hv
  simp only [iSize, List.mem_cons, List.not_mem_nil, or_false] at hv
  rcases hv with rfl | rfl | rfl | rfl | rfl | rfl | rfl | rfl | rfl | rfl
  · exact lt_up (natAbs_sub_lt h.x gU) (by omega)
  · exact lt_up (natAbs_add_lt pc (lt_up hr.s (by omega))) (by omega)
  · exact lt_up pu (by omega)
  · exact lt_up n0 (by omega)
  · exact lt_up n1 (by omega)
  · exact lt_up m0 (by omega)
  · exact lt_up m1 (by omega)
  · exact lt_up sm (by omega)
  · exact lt_up (natAbs_sub_lt (lt_up lU (by omega)) pu) (by omega)
  · exact lt_up pu (by omega)
theorem sizes_g {U a b f : Int} {gs : List Int} {n K L : Nat} (hU : 0 < U) (hUd : pw2 f ^ (n + 1) ∣ U) (hUb : U.natAbs < 2 ^ (K - 14)) (hK : 14 < K) (ha : a.natAbs < 2 ^ 13) (hb : b.natAbs < 2 ^ 13) (hg : ∀ x ∈ gs, -2000 ≤ x ∧ x ≤ 2000)
    (hVX : ∀ t : Nat, t < L → pcW gs (t + 1 : Nat) = ltW gs t ∧ gI gs (t + 1 : Nat) = gI gs t + pcW gs (t + 1 : Nat)) :
    ∀ (rs : List LRow) (t k : Nat) (d : RSt) (i : ISt), t + k = n + 1 → rs.length ≤ k → t + rs.length ≤ L → K ≤ 300 → 24 * (t + rs.length) ≤ 390 → RelG U gs t d i → Dv (pw2 f ^ k) i → Bd (K + 24 * t) i → (∀ r ∈ rs, RunR U f n K r) →
      (∀ j at', j < rs.length → at' < 10 → ∃ (row : List Int) (v : Int), (iSizes U a b f gs t i rs)[j]? = some row ∧ row.length = 10 ∧ row[at']? = some v ∧ (v : Rat) = (U : Rat) * ((nou gs at' (t + j : Nat) : Rat) + dAt a b f j d rs at') ∧ v.natAbs < 2 ^ 700) ∧
      (∃ dE, RelG U gs (t + rs.length) dE (iEnd U a b f gs t i rs) ∧ dE.x = dAt a b f rs.length d rs 0) ∧ Bd 690 (iEnd U a b f gs t i rs)
  | [], t, k, d, i, _, _, _, hK3, hT, hrel, _, hbd, _ => ⟨fun j at' hj => by simp at hj, ⟨d, hrel, rfl⟩, ⟨lt_up hbd.x (by simp at hT; omega), lt_up hbd.v (by simp at hT; omega), lt_up hbd.y0 (by simp at hT; omega)⟩⟩
  | r :: rs, t, 0, d, i, _, hl, _, _, _, _, _, _, _ => by simp at hl
  | r :: rs, t, k + 1, d, i, htk, hl, hL, hK3, hT, hrel, hdv, hbd, hall => by
    have hr := hall r (List.mem_cons_self ..)
    simp only [List.length_cons] at hl hT hL
    have bg := gI_bd (B := 2000) (by decide) hg t
    have bw := W_bd (B := 2000) (by decide) hg t
    have hkn : k ≤ n := by omega
    obtain ⟨hd, hdv'⟩ := dv_step (a := a) (b := b) (gs := gs) (t := t) rfl (Int.dvd_trans (pow_dvd (by omega)) hUd) (Int.dvd_trans (pow_dvd hkn) hr.l) (Int.dvd_trans (pow_dvd hkn) hr.s) (Int.dvd_trans (pow_dvd (by omega)) hr.m) (Int.dvd_trans (pow_dvd hkn) hr.z) hdv
    obtain ⟨b1, b2, b3⟩ := bd_step (k := K + 24 * t) (by omega) (lt_up hUb (by omega)) (by omega) ha hb (by omega) (by omega) (by omega) hbd (hr.bd.up (by omega)) hd
    have b4 := size_bd (k := K + 24 * t) (by omega) (lt_up hUb (by omega)) (by omega) ha hb (by omega) (by omega) (by omega) hbd (hr.bd.up (by omega)) hd
    obtain ⟨hV, hX⟩ := hVX t (by omega)
    have hn := next_g (a := a) (b := b) hrel hr.rel hd hV hX
    obtain ⟨j1, ⟨dE, j2, j3⟩, j4⟩ := sizes_g hU hUd hUb hK ha hb hg hVX rs (t + 1) k (dN a b f d r) (iN U a b f gs t i (irow U r)) (by omega) (by omega) (by omega) hK3 (by omega) hn hdv' (by rw [show K + 24 * (t + 1) = K + 24 * t + 24 by omega]; exact b3) fun x hx => hall x (List.mem_cons_of_mem _ hx)
    refine ⟨fun j at' hj h10 => ?_, ⟨dE, ?_, j3⟩, j4⟩
    · match j with
      | 0 =>
        obtain ⟨v, e1, e2⟩ := size_g (a := a) (b := b) hrel hr.rel hd hV at' h10
        exact ⟨_, v, rfl, rfl, e1, e2, lt_up (b4 v (List.mem_of_getElem? e1)) (by omega)⟩
      | j + 1 =>
        obtain ⟨row, v, e0, el, e1, e2, e3⟩ := j1 j at' (by simpa using hj) h10
        refine ⟨row, v, e0, el, e1, ?_, e3⟩
        rw [e2, show t + (j + 1) = t + 1 + j by omega]
        rfl
    · rw [show t + (r :: rs).length = t + 1 + rs.length by simp; omega]
      exact j2
/-! ### answers in whole parts -/
def oneU (f : Int) (m : Nat) : Int := pw2 f ^ (m + 1)
def ansI (a b f : Int) (κ m : Nat) : List (List Int) := iSizes (oneU f m) a b f [] 0 ⟨0, 0, 0⟩ (eK κ :: List.replicate m zr)
theorem gI_nil (t : Int) : gI [] t = 0 := rfl
theorem pcW_nil (t : Int) : pcW [] t = 0 := by unfold pcW; rw [gI_nil, gI_nil]; split <;> rfl
theorem ltW_nil (t : Int) : ltW [] t = 0 := by unfold ltW; rw [gI_nil, gI_nil]; split <;> rfl
theorem sc_1 (U : Int) : sc U 1 = U := by unfold sc; show 1 * U / 1 = U; simp
theorem sc_0 (U : Int) : sc U 0 = 0 := by unfold sc; show 0 * U / 1 = 0; simp
theorem dA_zr {a b f : Int} (k at' : Nat) : dA a b f zr k at' = 0 := by
  have := dA_mul (a := a) (b := b) (f := f) 0 zr k at'
  rw [zr_mul, Rat.zero_mul] at this; exact this
theorem conv_zr {a b f : Int} (at' : Nat) : ∀ (j m : Nat), conv a b f at' j (List.replicate m zr) = 0
  | _, 0 => by cases ‹Nat› <;> rfl
  | 0, m + 1 => by simp only [List.replicate_succ, conv, dA_zr]
  | j + 1, m + 1 => by simp only [List.replicate_succ, conv, dA_zr, conv_zr at' j m, Rat.add_zero]
theorem one_pos (f : Int) (m : Nat) : 0 < oneU f m := Int.pow_pos (by have := pw2_pos f; omega)
theorem one_bd {f : Int} {m : Nat} (h8 : f ≤ 8) (hm : m ≤ 15) : (oneU f m).natAbs < 2 ^ (150 - 12) := by
  have hp := pw2_pos f
  have h2 : (pw2 f).natAbs ≤ 2 ^ 8 := by have := pw2_le (f := f) (k := 8) (by omega); omega
  unfold oneU
  rw [Int.natAbs_pow]
  have h3 : (pw2 f).natAbs ^ (m + 1) ≤ (2 ^ 8) ^ (m + 1) := Nat.pow_le_pow_left h2 _
  rw [← Nat.pow_mul] at h3
  have h4 : (2 : Nat) ^ (8 * (m + 1)) ≤ 2 ^ 128 := Nat.pow_le_pow_right (by decide) (by omega)
  have h6 : 2 ^ 128 < 2 ^ (150 - 12) := by decide
  omega
theorem ans_row {f : Int} {m : Nat} (h8 : f ≤ 8) (hm : m ≤ 15) {r : LRow} (h : ∀ q ∈ [r.l, r.s, r.m, r.z], q = 0 ∨ q = 1) : RunR (oneU f m) f m 152 r := by
  have hb := one_bd (f := f) h8 hm
  have key : ∀ q : Rat, q = 0 ∨ q = 1 → q * (oneU f m : Rat) = (sc (oneU f m) q : Rat) ∧ pw2 f ^ (m + 1) ∣ sc (oneU f m) q ∧ (sc (oneU f m) q).natAbs < 2 ^ 152 := by
    rintro q (rfl | rfl)
    · rw [sc_0]; exact ⟨by simp, ⟨0, by simp⟩, Nat.two_pow_pos _⟩
    · rw [sc_1]; exact ⟨by rw [Rat.one_mul], ⟨1, by unfold oneU; rw [Int.mul_one]⟩, lt_up hb (by decide)⟩
  have up : ∀ {x : Int}, pw2 f ^ (m + 1) ∣ x → pw2 f ^ m ∣ x := fun hx => Int.dvd_trans (pow_dvd (by omega)) hx
  obtain ⟨l1, l2, l3⟩ := key r.l (h _ (by simp))
  obtain ⟨s1, s2, s3⟩ := key r.s (h _ (by simp))
  obtain ⟨m1, m2, m3⟩ := key r.m (h _ (by simp))
  obtain ⟨z1, z2, z3⟩ := key r.z (h _ (by simp))
  exact ⟨⟨l1, s1, m1, z1⟩, up l2, up s2, m2, up z2, ⟨l3, s3, m3, z3⟩⟩
theorem eK_01 (κ : Nat) : ∀ q ∈ [(eK κ).l, (eK κ).s, (eK κ).m, (eK κ).z], q = 0 ∨ q = 1 := by
  match κ with
  | 0 | 1 | 2 | 3 => intro q hq; simp only [eK, List.mem_cons, List.not_mem_nil, or_false] at hq; rcases hq with rfl | rfl | rfl | rfl <;> first | exact .inl rfl | exact .inr rfl
  | n + 4 => intro q hq; simp only [eK, zr, List.mem_cons, List.not_mem_nil, or_false] at hq; rcases hq with rfl | rfl | rfl | rfl <;> exact .inl rfl
theorem ans_at {a b f : Int} {κ m : Nat} (h8 : f ≤ 8) (hm : m ≤ 15) (ha : a.natAbs < 2 ^ 13) (hb : b.natAbs < 2 ^ 13) {k at' : Nat} (hk : k ≤ m) (h10 : at' < 10) :
    ∃ (row : List Int) (v : Int), (ansI a b f κ m)[k]? = some row ∧ row.length = 10 ∧ row[at']? = some v ∧ (v : Rat) = (oneU f m : Rat) * dA a b f (eK κ) k at' ∧ v.natAbs < 2 ^ 700 := by
  have hp := pw2_pos f
  have h := (sizes_g (U := oneU f m) (a := a) (b := b) (f := f) (gs := []) (n := m) (K := 152) (L := m + 1) (one_pos f m) ⟨1, by unfold oneU; rw [Int.mul_one]⟩ (one_bd h8 hm) (by decide) ha hb (fun x hx => by cases hx)
    (fun t _ => by rw [pcW_nil, ltW_nil, gI_nil, gI_nil]; exact ⟨rfl, rfl⟩) (eK κ :: List.replicate m zr) 0 (m + 1) z0 ⟨0, 0, 0⟩ (by omega) (by simp) (by simp) (by decide) (by simp; omega)
    ⟨by rw [gI_nil]; show ((0 : Int) : Rat) = _ * (0 + ((0 : Int) : Rat)); simp only [Rat.intCast_zero, Rat.add_zero, Rat.mul_zero], by rw [pcW_nil]; show ((0 : Int) : Rat) = _ * (0 + ((0 : Int) : Rat)); simp only [Rat.intCast_zero, Rat.add_zero, Rat.mul_zero], by rw [gI_nil, pcW_nil]; show ((0 : Int) : Rat) = _ * (0 + ((0 : Int) : Rat) - ((0 : Int) : Rat)); simp only [Rat.intCast_zero]; grind⟩
    ⟨⟨0, by simp⟩, ⟨0, by simp⟩, ⟨0, by simp⟩⟩ ⟨Nat.two_pow_pos _, Nat.two_pow_pos _, Nat.two_pow_pos _⟩ (fun r hr => ?_)).1 k at' (by simp; omega) h10
  · obtain ⟨row, v, e1, e2, e3, e4, e5⟩ := h
    refine ⟨row, v, e1, e2, e3, ?_, e5⟩
    rw [e4, dAt_z0 (by simp; omega)]
    have : nou [] at' ((0 + k : Nat) : Int) = 0 := by unfold nou; rw [pcW_nil, ltW_nil, pcW_nil]; split <;> (try split) <;> rfl
    rw [this]
    cases k with
    | zero => simp only [conv, Rat.intCast_zero, Rat.zero_add]
    | succ k => simp only [conv, conv_zr, Rat.intCast_zero, Rat.zero_add, Rat.add_zero]
  · rcases List.mem_cons.mp hr with rfl | hr
    · exact ans_row h8 hm (eK_01 κ)
    · rw [(List.mem_replicate.mp hr).2]
      exact ans_row h8 hm (eK_01 4)
end DL

namespace DL
open PySem PySem.Spec PyProof.Rows L2
/-! ### the sums of the program -/
def unitOfC : List CS := [.ret (.bin .LShift false (.con (.int 1)) (.bin .Mult false (.ix (.var 0) (.con (.int 2))) (.bin .Add false (.var 1) (.con (.int 1)))))]
def spUnitOf (ds : List D) (S : DStore) (Q : QE) : Prop := ∃ a b f bits, ∃ m : Nat, ds = [hndD a b f bits, .int m] ∧ HOk a b f bits ∧ m ≤ 1000 ∧ Q (.int (oneU f m)) S
theorem spUnitOf_len : ∀ ds S Q, spUnitOf ds S Q → ds.length = 2 := by rintro _ _ _ ⟨_, _, _, _, _, rfl, _⟩; rfl
theorem one_eq {f : Int} {m : Nat} (h : 0 ≤ f) : (1 : Int) * 2 ^ (f * ((m : Int) + 1)).toNat = oneU f m := by
  unfold oneU pw2
  rw [Int.one_mul, show f * ((m : Int) + 1) = f * ((m + 1 : Nat) : Int) by simp, toNat_mul h, Int.pow_mul]
theorem unitOf_ok {G : Fns} : ∀ ds S Q, spUnitOf ds S Q → wpSs G unitOfC (startD 2 ds) S { nx := fun _ S' => Q .non S', rt := Q } := by
  rintro ds S Q ⟨a, b, f, bits, m, rfl, hh, hl, hQ⟩
  have := hh.f1; have := hh.f2
  have hb := fl_bd (n := m) hh.f1 hh.f2
  unfold unitOfC hndD
  simp_arith only []
  refine ⟨mul_small_left (by omega) (by omega), cpow1 (by omega) (by omega), ?_⟩
  rw [one_eq hh.f1]
  exact hQ
def ansC (ju : Nat) : List CS := [.asg (.tup [(.name 6), (.name 7), (.name 8), (.name 9)]) (.var 0),
  .asg (.name 3) (.call ju [(.var 0), (.var 2)]),
  .asg (.tup [(.name 10), (.name 11), (.name 12)]) (.tup [(.con (.int 0)), (.con (.int 0)), (.con (.int 0))]),
  .asg (.name 4) (.lst true []),
  .for_ (.name 5) (.range1 (.bin .Add false (.var 2) (.con (.int 1)))) [.asg (.tup [(.name 17), (.name 18), (.name 19), (.name 20)]) (.lc false (.bin .Mult false (.var 3) (.bi .int1 false [(.and_ (.cmp .Eq (.var 5) (.con (.int 0))) (.cmp .Eq (.var 1) (.var 21)))])) (.name 21) (.range1 (.glo 0)) [] [21]),
    .asg (.name 13) (.bin .Add false (.var 10) (.var 19)),
    .asg (.name 14) (.bin .Sub false (.var 13) (.var 12)),
    .asg (.name 15) (.bin .Add false (.bin .Mult false (.var 6) (.var 13)) (.bin .Mult false (.var 7) (.var 14))),
    .asg (.name 16) (.bin .Sub false (.var 20) (.bin .RShift false (.var 15) (.var 8))),
    .aug 11 .Add (.bin .Add false (.var 16) (.var 17)),
    .append (.var 4) (.tup [(.var 10), (.bin .Add false (.var 11) (.var 18)), (.var 16), (.var 13), (.var 14), (.bin .Mult false (.var 6) (.var 13)), (.bin .Mult false (.var 7) (.var 14)), (.var 15), (.neg (.var 16)), (.var 16)]),
    .par2 10 12 (.bin .Add false (.bin .Add false (.var 10) (.var 11)) (.var 18)) (.var 13)],
  .ret (.var 4)]
def spAns (ds : List D) (S : DStore) (Q : QE) : Prop := ∃ a b f bits, ∃ κ m : Nat, ds = [hndD a b f bits, .int κ, .int m] ∧ HOk a b f bits ∧ κ < 4 ∧ m ≤ 1000 ∧ ∀ q S', Kp S S' → S'[q]? = some (.lst ((ansI a b f κ m).map tupI)) → Q (.ref q) S'
theorem spAns_len : ∀ ds S Q, spAns ds S Q → ds.length = 3 := by rintro _ _ _ ⟨_, _, _, _, _, _, rfl, _⟩; rfl
/-- a row of the inputs of an answer -/
def ansRow (κ i : Nat) : LRow := if i = 0 then eK κ else zr
theorem ans_rows (κ m : Nat) : (eK κ :: List.replicate m zr) = (List.range (m + 1)).map (ansRow κ) := by
  rw [List.range_succ_eq_map, List.map_cons]
  congr 1
  rw [List.map_map]
  symm
  rw [List.eq_replicate_iff]
  constructor
  · simp
  · intro x hx
    obtain ⟨y, _, rfl⟩ := List.mem_map.mp hx
    rfl
theorem i_b2 (U : Int) (p q : Bool) : U * (if (p && q) = true then (1 : Int) else 0) = if p = true ∧ q = true then U else 0 := by cases p <;> cases q <;> simp
theorem ans_ok {G : Fns} {ju : Nat} (hu : G.fn ju = spUnitOf) (h4 : G.gl 0 = .int 4) : ∀ ds S Q, spAns ds S Q → wpSs G (ansC ju) (startD 22 ds) S { nx := fun _ S' => Q .non S', rt := Q } := by
  rintro ds S Q ⟨a, b, f, bits, κ, m, rfl, h, hκ, hm, hQ⟩
  have := h.a1; have := h.a2; have := h.b1; have := h.b2; have := h.f1; have := h.f2
  unfold ansC
  refine ss_split 4 (fun ρ S' => ρ = [some (hndD a b f bits), some (.int κ), some (.int m), some (.int (oneU f m)), some (.ref S.length), none, some (.int a), some (.int b), some (.int f), some (.int bits), some (.int 0), some (.int 0), some (.int 0), none, none, none, none, none, none, none, none, none] ∧ S' = S ++ [.lst []]) (fun N hN => ?_) ?_
  · unfold hndD
    simp_arith only [hu]
    refine ⟨by trivial, a, b, f, bits, m, rfl, h, hm, ?_⟩
    (try simp_arith only [])
    refine ⟨by trivial, ?_⟩
    exact hN _ _ ⟨by simp [hndD], rfl⟩
  rintro ρ S1 ⟨rfl, rfl⟩
  have hq0 : (S ++ [Cell.lst []])[S.length]? = some (.lst []) := by simp
  have hK0 : Kp S (S ++ [Cell.lst []]) := fun j c hj => by rw [List.getElem?_append_left (List.getElem?_eq_some_iff.mp hj).1]; exact hj
  have hSl : ∀ (j : Nat) (c : Cell), S[j]? = some c → j < S.length := fun j c hj => (List.getElem?_eq_some_iff.mp hj).1
  generalize hFq : S.length = q at *
  generalize S ++ [Cell.lst []] = S1 at *
  have hA : ansI a b f κ m = iSizes (oneU f m) a b f [] 0 ⟨0, 0, 0⟩ ((List.range (m + 1)).map (ansRow κ)) := by unfold ansI; rw [ans_rows]
  generalize oneU f m = U at *
  (try simp_arith only [])
  (repeat (refine And.intro (by first | omega | exact DL.mul_small_left (by omega) (by omega) | exact DL.mul_small_right (by omega) (by omega) | exact DL.div_om (by omega) (by omega) (by omega) | exact DL.cpow1 (by omega) (by omega) | exact ⟨by omega, by omega⟩ | exact DL.len_le (by (try simp only [List.length_map, List.length_append, List.length_cons, List.length_nil]); omega) | exact DL.len_lt (by (try simp only [List.length_map, List.length_append, List.length_cons, List.length_nil]); omega) | trivial | decide) ?_))
  have hd : ∀ i, i < m + 1 → ((List.range (m + 1)).map (ansRow κ)).drop i = ansRow κ i :: ((List.range (m + 1)).map (ansRow κ)).drop (i + 1) := fun i hi => by
    rw [List.drop_eq_getElem_cons (by simpa using hi)]; simp
  refine walk_range (fun i ρ S' => i ≤ m + 1 ∧ ∃ (s : ISt) (acc : List (List Int)) (r5 : Option D) (r13 r14 r15 r16 r17 r18 r19 r20 r21 : Option D), ρ = [some (hndD a b f bits), some (.int κ), some (.int m), some (.int U), some (.ref q), r5, some (.int a), some (.int b), some (.int f), some (.int bits), some (.int s.x), some (.int s.v), some (.int s.y0), r13, r14, r15, r16, r17, r18, r19, r20, r21] ∧ S'[q]? = some (.lst (acc.map tupI)) ∧ Kp S S' ∧ acc.length = i ∧
      iSizes U a b f [] 0 ⟨0, 0, 0⟩ ((List.range (m + 1)).map (ansRow κ)) = acc ++ iSizes U a b f [] i s (((List.range (m + 1)).map (ansRow κ)).drop i))
    ⟨by omega, ⟨0, 0, 0⟩, [], none, none, none, none, none, none, none, none, none, none, rfl, hq0, hK0, rfl, rfl⟩ (fun _ _ _ _ => trivial) (fun i ρ S' hi hP => ?_) (fun ρ S' hP => ?_)
  · obtain ⟨him, s, acc, r5, r13, r14, r15, r16, r17, r18, r19, r20, r21, rfl, hq, hK, hl, hr⟩ := hP
    rw [hd i (by omega)] at hr
    simp only [iSizes] at hr
    unfold DL.forTurn
    (try simp_arith only [h4])
    have er : rangeD 0 4 = [.int 0, .int 1, .int 2, .int 3] := rfl
    rw [er]
    refine ⟨⟨by decide, by decide⟩, gather_run (by show 4 ≤ sizeLine; decide) ?_⟩
    have mU : ∀ c : Prop, ∀ [Decidable c], MulOk U (if c then 1 else 0) := fun c _ => mul_small_right (by split <;> decide) (by split <;> decide)
    simp only [gW, DL.lcTurn]
    refine ⟨by simp, ?_⟩
    have fin : ∀ (ir : IRow), irow U (ansRow κ i) = ir → MulOk a (s.x + ir.m) ∧ MulOk b (s.x + ir.m - s.y0) ∧ 0 ≤ f ∧ LAt S' q ∧ MulOk a (s.x + ir.m) ∧ MulOk b (s.x + ir.m - s.y0) ∧ ∃ xs, S'[q]? = some (.lst xs) ∧ xs.length < sizeLine ∧ ∀ (r5 r13 r14 r15 r16 r17 r18 r19 r20 r21 : Option D),
        (fun i ρ S' => i ≤ m + 1 ∧ ∃ (s : ISt) (acc : List (List Int)) (r5 : Option D) (r13 r14 r15 r16 r17 r18 r19 r20 r21 : Option D), ρ = [some (hndD a b f bits), some (.int κ), some (.int m), some (.int U), some (.ref q), r5, some (.int a), some (.int b), some (.int f), some (.int bits), some (.int s.x), some (.int s.v), some (.int s.y0), r13, r14, r15, r16, r17, r18, r19, r20, r21] ∧ S'[q]? = some (.lst (acc.map tupI)) ∧ Kp S S' ∧ acc.length = i ∧
          iSizes U a b f [] 0 ⟨0, 0, 0⟩ ((List.range (m + 1)).map (ansRow κ)) = acc ++ iSizes U a b f [] i s (((List.range (m + 1)).map (ansRow κ)).drop i)) (i + 1)
          [some (hndD a b f bits), some (.int κ), some (.int m), some (.int U), some (.ref q), r5, some (.int a), some (.int b), some (.int f), some (.int bits), some (.int (s.x + (s.v + (ir.z - (a * (s.x + ir.m) + b * (s.x + ir.m - s.y0)) / 2 ^ f.toNat + ir.l)) + ir.s)), some (.int (s.v + (ir.z - (a * (s.x + ir.m) + b * (s.x + ir.m - s.y0)) / 2 ^ f.toNat + ir.l))), some (.int (s.x + ir.m)), r13, r14, r15, r16, r17, r18, r19, r20, r21]
          (S'.set q (.lst (xs ++ [.tup [.int s.x, .int (s.v + (ir.z - (a * (s.x + ir.m) + b * (s.x + ir.m - s.y0)) / 2 ^ f.toNat + ir.l) + ir.s), .int (ir.z - (a * (s.x + ir.m) + b * (s.x + ir.m - s.y0)) / 2 ^ f.toNat), .int (s.x + ir.m), .int (s.x + ir.m - s.y0), .int (a * (s.x + ir.m)), .int (b * (s.x + ir.m - s.y0)), .int (a * (s.x + ir.m) + b * (s.x + ir.m - s.y0)), .int (-(ir.z - (a * (s.x + ir.m) + b * (s.x + ir.m - s.y0)) / 2 ^ f.toNat)), .int (ir.z - (a * (s.x + ir.m) + b * (s.x + ir.m - s.y0)) / 2 ^ f.toNat)]]))) := by
      intro ir hir
      refine ⟨mul_small_left (by omega) (by omega), mul_small_left (by omega) (by omega), h.f1, lat hq, mul_small_left (by omega) (by omega), mul_small_left (by omega) (by omega), _, hq, len_lt (by rw [List.length_map]; omega), fun r5 r13 r14 r15 r16 r17 r18 r19 r20 r21 => ⟨by omega, iN U a b f [] i s ir, acc ++ [iSize U a b f [] i s ir], r5, r13, r14, r15, r16, r17, r18, r19, r20, r21, ?_, ?_, ?_, by simp [hl], ?_⟩⟩
      · have e : iN U a b f [] i s ir = ⟨s.x + (s.v + (ir.z - (a * (s.x + ir.m) + b * (s.x + ir.m - s.y0)) / 2 ^ f.toNat + ir.l)) + ir.s, s.v + (ir.z - (a * (s.x + ir.m) + b * (s.x + ir.m - s.y0)) / 2 ^ f.toNat + ir.l), s.x + ir.m⟩ := by
          simp only [iN, iPace, iPush, iSum, gI_nil, pcW_nil, ltW_nil, Int.zero_mul, Int.sub_zero, pw2, ISt.mk.injEq]
          refine ⟨?_, ?_, trivial⟩ <;> omega
        rw [e]
      · rw [set_get hq, List.map_append]
        have e : iSize U a b f [] i s ir = [s.x, s.v + (ir.z - (a * (s.x + ir.m) + b * (s.x + ir.m - s.y0)) / 2 ^ f.toNat + ir.l) + ir.s, ir.z - (a * (s.x + ir.m) + b * (s.x + ir.m - s.y0)) / 2 ^ f.toNat, s.x + ir.m, s.x + ir.m - s.y0, a * (s.x + ir.m), b * (s.x + ir.m - s.y0), a * (s.x + ir.m) + b * (s.x + ir.m - s.y0), -(ir.z - (a * (s.x + ir.m) + b * (s.x + ir.m - s.y0)) / 2 ^ f.toNat), ir.z - (a * (s.x + ir.m) + b * (s.x + ir.m - s.y0)) / 2 ^ f.toNat] := by
          simp only [iSize, iPace, iPush, iSum, gI_nil, pcW_nil, ltW_nil, Int.zero_mul, Int.sub_zero, pw2, List.cons.injEq, and_true, true_and]
          refine ⟨?_, ?_, ?_, ?_⟩ <;> omega
        rw [e]; rfl
      · intro j c hj
        have := hSl j c hj
        rw [List.getElem?_set_ne (by omega)]; exact hK j c hj
      · rw [hr, hir]; simp
    have sel : ∀ j : Nat, U * (if (κ : Int) = (j : Int) then 1 else 0) = if κ = j then U else 0 := fun j => by
      by_cases h : κ = j
      · subst h; simp
      · rw [if_neg (by omega), if_neg h, Int.mul_zero]
    by_cases hi0 : (0 : Int) + (i : Int) = 0
    · (try simp_arith only [hi0])
      have hz : i = 0 := by omega
      have hir : irow U (ansRow κ i) = ⟨U * (if (κ : Int) = 0 then 1 else 0), U * (if (κ : Int) = 1 then 1 else 0), U * (if (κ : Int) = 2 then 1 else 0), U * (if (κ : Int) = 3 then 1 else 0)⟩ := by
        subst hz
        have hc : κ = 0 ∨ κ = 1 ∨ κ = 2 ∨ κ = 3 := by omega
        rcases hc with rfl | rfl | rfl | rfl <;> simp [irow, ansRow, eK, sc_1, sc_0]
      obtain ⟨f1, f2, f3, f4, f5, f6, xs, f7, f8, f9⟩ := fin _ hir
      exact ⟨mU _, ⟨trivial, by decide, by decide⟩, mU _, ⟨trivial, by decide, by decide⟩, mU _, ⟨trivial, by decide, by decide⟩, mU _, ⟨trivial, by decide, by decide⟩, trivial, f1, f2, f3, f4, f5, f6, xs, f7, f8, f9 _ _ _ _ _ _ _ _ _ _⟩
    · (try simp_arith only [hi0])
      have hz : i ≠ 0 := by omega
      have hir : irow U (ansRow κ i) = ⟨U * 0, U * 0, U * 0, U * 0⟩ := by simp [irow, ansRow, hz, zr, sc_0]
      obtain ⟨f1, f2, f3, f4, f5, f6, xs, f7, f8, f9⟩ := fin _ hir
      have m0 : MulOk U 0 := mul_small_right (by decide) (by decide)
      exact ⟨m0, ⟨trivial, by decide, by decide⟩, m0, ⟨trivial, by decide, by decide⟩, m0, ⟨trivial, by decide, by decide⟩, m0, ⟨trivial, by decide, by decide⟩, trivial, f1, f2, f3, f4, f5, f6, xs, f7, f8, f9 _ _ _ _ _ _ _ _ _ _⟩
  · obtain ⟨him, s, acc, r5, r13, r14, r15, r16, r17, r18, r19, r20, r21, rfl, hq, hK, hl, hr⟩ := hP
    (try simp_arith only [])
    have e : ((m : Int) + 1 - 0).toNat = m + 1 := by omega
    rw [e, List.drop_of_length_le (by simp)] at hr
    simp only [iSizes, List.append_nil] at hr
    refine hQ q S' hK ?_
    rw [hA, hr]; exact hq
/-! ### all four kinds -/
def anssC (ja : Nat) : List CS := [.ret (.lc false (.call ja [(.var 0), (.var 2), (.var 1)]) (.name 2) (.range1 (.glo 0)) [] [2])]
structure Told (a b f : Int) (m : Nat) (S : DStore) (q0 q1 q2 q3 : Nat) : Prop where
  e0 : S[q0]? = some (.lst ((ansI a b f 0 m).map tupI))
  e1 : S[q1]? = some (.lst ((ansI a b f 1 m).map tupI))
  e2 : S[q2]? = some (.lst ((ansI a b f 2 m).map tupI))
  e3 : S[q3]? = some (.lst ((ansI a b f 3 m).map tupI))
theorem Told.keep {a b f : Int} {m : Nat} {S S' : DStore} {q0 q1 q2 q3 : Nat} (h : Told a b f m S q0 q1 q2 q3) (k : Kp S S') : Told a b f m S' q0 q1 q2 q3 := ⟨k _ _ h.e0, k _ _ h.e1, k _ _ h.e2, k _ _ h.e3⟩
def toldD (q0 q1 q2 q3 : Nat) : D := .lst [.ref q0, .ref q1, .ref q2, .ref q3]
def spAnss (ds : List D) (S : DStore) (Q : QE) : Prop := ∃ a b f bits, ∃ m : Nat, ds = [hndD a b f bits, .int m] ∧ HOk a b f bits ∧ m ≤ 1000 ∧ ∀ q0 q1 q2 q3 S', Kp S S' → Told a b f m S' q0 q1 q2 q3 → Q (toldD q0 q1 q2 q3) S'
theorem spAnss_len : ∀ ds S Q, spAnss ds S Q → ds.length = 2 := by rintro _ _ _ ⟨_, _, _, _, _, rfl, _⟩; rfl
theorem anss_ok {G : Fns} {ja : Nat} (ha : G.fn ja = spAns) (h4 : G.gl 0 = .int 4) : ∀ ds S Q, spAnss ds S Q → wpSs G (anssC ja) (startD 3 ds) S { nx := fun _ S' => Q .non S', rt := Q } := by
  rintro ds S Q ⟨a, b, f, bits, m, rfl, h, hm, hQ⟩
  unfold anssC
  simp_arith only [h4, ha]
  have er : rangeD 0 4 = [.int 0, .int 1, .int 2, .int 3] := rfl
  rw [er]
  refine ⟨⟨by decide, by decide⟩, gather_run (by show 4 ≤ sizeLine; decide) ?_⟩
  simp only [gW, DL.lcTurn]
  refine ⟨by simp, ?_⟩
  (try simp_arith only [ha])
  refine ⟨a, b, f, bits, 0, m, rfl, h, by decide, hm, fun q0 S0 k0 e0 => ⟨by simp, ?_⟩⟩
  refine ⟨a, b, f, bits, 1, m, rfl, h, by decide, hm, fun q1 S1 k1 e1 => ⟨by simp, ?_⟩⟩
  refine ⟨a, b, f, bits, 2, m, rfl, h, by decide, hm, fun q2 S2 k2 e2 => ⟨by simp, ?_⟩⟩
  refine ⟨a, b, f, bits, 3, m, rfl, h, by decide, hm, fun q3 S3 k3 e3 => ⟨by simp, ?_⟩⟩
  exact hQ q0 q1 q2 q3 S3 (((k0.trans k1).trans k2).trans k3) ⟨k3 _ _ (k2 _ _ (k1 _ _ e0)), k3 _ _ (k2 _ _ e1), k3 _ _ e2, e3⟩
end DL

namespace DL
open PySem PySem.Spec PyProof.Rows L2
/-! ### sizes by name -/
def szN : List Str := ["place", "pace", "push", "n0", "n1", "n2", "n3", "n4", "n5", "n6"]
def nmS (i : Nat) : Str := szN.getD i ""
theorem nm_pace : ∀ k, k < 10 → (nmS k = "pace" ↔ k = 1) := by decide +kernel
theorem nm_place : ∀ k, k < 10 → (nmS k = "place" ↔ k = 0) := by decide +kernel
theorem nm_in : ∀ k, k < 10 → inV (.str (nmS k)) [.str "push", .str "n6"] = decide (k = 2 ∨ k = 9) := by decide +kernel
theorem nm_at : ∀ k, k < 10 → szN[k]? = some (nmS k) ∧ ∀ m, m < k → szN[m]? ≠ some (nmS k) := by decide +kernel
theorem tix {G : Fns} {e : CE} {r : Option D} {ρ : DEnv} {S : DStore} {Q : QE} {k : Nat} (hG : G.gl 1 = .tup (szN.map D.str)) (h : k < 10) (he : ∀ Q' : QE, Q' (.str (nmS k)) S → wpE G e (r :: ρ) S Q') (hQ : Q (.int k) S) : wpE G (.tindex 1 e) (r :: ρ) S Q := by
  rw [e_tix]
  exact ⟨szN, hG, he _ ⟨nmS k, k, rfl, (nm_at k h).1, (nm_at k h).2, hQ⟩⟩
def nouC (jw : Nat) : List CS := [.if_ (.ccmp .Eq (.var 1) (.con (.str "pace"))) [.ret (.ix (.call jw [(.var 0), (.bin .Add false (.var 2) (.con (.int 1)))]) (.con (.int 1)))] [],
  .if_ (.ccmp .In (.var 1) (.tup [(.con (.str "push")), (.con (.str "n6"))])) [.ret (.ix (.call jw [(.var 0), (.var 2)]) (.con (.int 2)))] [],
  .ret (.con (.int 0))]
def spNou (ds : List D) (S : DStore) (Q : QE) : Prop := ∃ (gs : List Int) (at' t : Nat), ds = [.tup (gs.map D.int), .str (nmS at'), .int t] ∧ at' < 10 ∧ t < gs.length ∧ (at' = 1 → t + 1 < gs.length) ∧ gs.length ≤ 100 ∧ Q (.int (nou gs at' t)) S
theorem spNou_len : ∀ ds S Q, spNou ds S Q → ds.length = 3 := by rintro _ _ _ ⟨_, _, _, rfl, _⟩; rfl
theorem nou_ok {G : Fns} {jw : Nat} (hw : G.fn jw = spW) : ∀ ds S Q, spNou ds S Q → wpSs G (nouC jw) (startD 3 ds) S { nx := fun _ S' => Q .non S', rt := Q } := by
  rintro ds S Q ⟨gs, at', t, rfl, h10, ht, h1, hl, hQ⟩
  have np := nm_pace at' h10
  unfold nouC
  simp_arith only [hw, np]
  refine if_i (fun e => ?_) fun e => ?_
  · have := h1 e
    refine ⟨gs, t + 1, rfl, by omega, by omega, hl, ?_⟩
    unfold wshD
    (try simp_arith only [])
    unfold nou at hQ
    rw [if_pos e] at hQ
    exact hQ
  · refine ⟨_, rfl, rfl, rfl, ?_⟩
    have e2 : inV (toV (.str (nmS at'))) (List.map toV [.str "push", .str "n6"]) = decide (at' = 2 ∨ at' = 9) := nm_in at' h10
    rw [e2]
    (try simp_arith only [])
    refine if_i (fun e' => ?_) fun e' => ?_
    · refine ⟨gs, t, rfl, by omega, by omega, hl, ?_⟩
      unfold wshD
      (try simp_arith only [])
      unfold nou at hQ
      rw [if_neg e, if_pos e'] at hQ
      exact hQ
    · unfold nou at hQ
      rw [if_neg e, if_neg e'] at hQ
      exact hQ
def beatsC : List CS := [.ret (.ite (.ccmp .Eq (.var 1) (.con (.str "place"))) (.bi .len false [(.var 0)]) (.bin .Sub false (.bi .len false [(.var 0)]) (.con (.int 1))))]
def beats (gs : List Int) (at' : Nat) : Nat := if at' = 0 then gs.length else gs.length - 1
def spBeats (ds : List D) (S : DStore) (Q : QE) : Prop := ∃ (gs : List Int) (at' : Nat), ds = [.tup (gs.map D.int), .str (nmS at')] ∧ at' < 10 ∧ 0 < gs.length ∧ Q (.int (beats gs at')) S
theorem spBeats_len : ∀ ds S Q, spBeats ds S Q → ds.length = 2 := by rintro _ _ _ ⟨_, _, rfl, _⟩; rfl
theorem beats_ok {G : Fns} : ∀ ds S Q, spBeats ds S Q → wpSs G beatsC (startD 2 ds) S { nx := fun _ S' => Q .non S', rt := Q } := by
  rintro ds S Q ⟨gs, at', rfl, h10, h0, hQ⟩
  have np := nm_place at' h10
  unfold beatsC
  simp_arith only [np, List.length_map]
  unfold beats at hQ
  refine if_i (fun e => ?_) fun e => ?_
  · rw [if_pos e] at hQ; exact hQ
  · rw [if_neg e] at hQ
    rw [show ((gs.length : Int) - 1) = ((gs.length - 1 : Nat) : Int) by omega]
    exact hQ
/-! ### bounds of the kinds -/
def endsC : List CS := [.asg (.name 2) (.bin .LShift false (.con (.int 1)) (.ix (.var 1) (.con (.int 2)))),
  .ret (.bin .Add false (.lc false (.tup [(.bin .Mult false (.neg (.var 3)) (.var 2)), (.bin .Mult false (.var 3) (.var 2))]) (.name 3) (.seq (.var 0)) [] [3]) (.lst false [(.tup [(.con (.int 0)), (.bin .Sub false (.var 2) (.con (.int 1)))])]))]
def endsL (l s q w : Int) : List (Int × Int) := [(-l * w, l * w), (-s * w, s * w), (-q * w, q * w), (0, w - 1)]
def prD (p : Int × Int) : D := .tup [.int p.1, .int p.2]
def spEnds (ds : List D) (S : DStore) (Q : QE) : Prop := ∃ l s q a b f bits, ds = [letsD l s q, hndD a b f bits] ∧ HOk a b f bits ∧ LB l s q ∧ Q (.lst ((endsL l s q (pw2 f)).map prD)) S
theorem spEnds_len : ∀ ds S Q, spEnds ds S Q → ds.length = 2 := by rintro _ _ _ ⟨_, _, _, _, _, _, _, rfl, _⟩; rfl
theorem ends_ok {G : Fns} : ∀ ds S Q, spEnds ds S Q → wpSs G endsC (startD 4 ds) S { nx := fun _ S' => Q .non S', rt := Q } := by
  rintro ds S Q ⟨l, s, q, a, b, f, bits, rfl, h, hl, hQ⟩
  have := h.f1; have := h.f2
  have h1 := pw2_pos f
  have h2 := pw2_le (f := f) (k := 8) (by omega)
  unfold endsC hndD letsD
  simp_arith only [pw2_one]
  refine ⟨cpow1 (by omega) (by omega), gather_run (by show 3 ≤ sizeLine; decide) ?_⟩
  simp only [gW, DL.lcTurn]
  refine ⟨by simp, ?_⟩
  (try simp_arith only [])
  (repeat (refine And.intro (by first | omega | exact DL.mul_small_left (by omega) (by omega) | exact DL.mul_small_right (by omega) (by omega) | exact DL.div_om (by omega) (by omega) (by omega) | exact DL.cpow1 (by omega) (by omega) | exact ⟨by omega, by omega⟩ | exact DL.len_le (by (try simp only [List.length_map, List.length_append, List.length_cons, List.length_nil]); omega) | exact DL.len_lt (by (try simp only [List.length_map, List.length_append, List.length_cons, List.length_nil]); omega) | trivial | decide) ?_))
  exact hQ
/-! ### the greatest moves -/
def mn (x y : Rat) : Rat := if y < x then y else x
def mx (x y : Rat) : Rat := if y > x then y else x
theorem mn_cast (x y : Int) : ((if y < x then y else x : Int) : Rat) = mn (x : Rat) (y : Rat) := by
  unfold mn
  by_cases h : y < x
  · rw [if_pos h, if_pos (by exact_mod_cast h)]
  · rw [if_neg h, if_neg (by intro z; exact h (by exact_mod_cast z))]
theorem mx_cast (x y : Int) : ((if y > x then y else x : Int) : Rat) = mx (x : Rat) (y : Rat) := by
  unfold mx
  by_cases h : y > x
  · rw [if_pos h, if_pos (show (y : Rat) > (x : Rat) by exact_mod_cast h)]
  · rw [if_neg h, if_neg (by intro z; exact h (by exact_mod_cast z))]
theorem mn_mul {c x y : Rat} (h : 0 < c) : mn (c * x) (c * y) = c * mn x y := by
  unfold mn
  by_cases e : y < x
  · rw [if_pos e, if_pos (Rat.mul_lt_mul_of_pos_left e h)]
  · rw [if_neg e, if_neg (by intro z; exact e (Rat.lt_of_mul_lt_mul_left z (Rat.le_of_lt h)))]
theorem mx_mul {c x y : Rat} (h : 0 < c) : mx (c * x) (c * y) = c * mx x y := by
  unfold mx
  by_cases e : y > x
  · rw [if_pos e, if_pos (show c * x < c * y from Rat.mul_lt_mul_of_pos_left e h)]
  · rw [if_neg e, if_neg (by intro z; exact e (Rat.lt_of_mul_lt_mul_left z (Rat.le_of_lt h)))]
section
variable (a b f l s q : Int)
/-- the ends of a kind -/
def loK : Nat → Rat
  | 0 => -(l : Rat)
  | 1 => -(s : Rat)
  | 2 => -(q : Rat)
  | _ => 0
def hiK : Nat → Rat
  | 0 => (l : Rat)
  | 1 => (s : Rat)
  | 2 => (q : Rat)
  | _ => ((pw2 f - 1 : Int) : Rat) / (pw2 f : Rat)
def dn1 (κ k at' : Nat) : Rat := mn (dA a b f (eK κ) k at' * loK l s q κ) (dA a b f (eK κ) k at' * hiK f l s q κ)
def up1 (κ k at' : Nat) : Rat := mx (dA a b f (eK κ) k at' * loK l s q κ) (dA a b f (eK κ) k at' * hiK f l s q κ)
def dn (k at' : Nat) : Rat := dn1 a b f l s q 0 k at' + dn1 a b f l s q 1 k at' + dn1 a b f l s q 2 k at' + dn1 a b f l s q 3 k at'
def up (k at' : Nat) : Rat := up1 a b f l s q 0 k at' + up1 a b f l s q 1 k at' + up1 a b f l s q 2 k at' + up1 a b f l s q 3 k at'
def sLo (at' : Nat) : Nat → Rat
  | 0 => 0
  | t + 1 => sLo at' t + dn a b f l s q t at'
def sHi (at' : Nat) : Nat → Rat
  | 0 => 0
  | t + 1 => sHi at' t + up a b f l s q t at'
def wLo (gs : List Int) (at' t : Nat) : Rat := (nou gs at' t : Rat) + sLo a b f l s q at' (t + 1)
def wHi (gs : List Int) (at' t : Nat) : Rat := (nou gs at' t : Rat) + sHi a b f l s q at' (t + 1)
end
theorem kinds_scale {f l s q one : Int} {A : Rat} {v : Int} (κ : Nat) (hκ : κ < 4) (hone : 0 < one) (hv : (v : Rat) = (one : Rat) * A) {lo hi : Int} (he : (endsL l s q (pw2 f))[κ]? = some (lo, hi)) :
    ((if v * hi < v * lo then v * hi else v * lo : Int) : Rat) = (one * pw2 f : Int) * mn (A * loK l s q κ) (A * hiK f l s q κ) ∧ ((if v * hi > v * lo then v * hi else v * lo : Int) : Rat) = (one * pw2 f : Int) * mx (A * loK l s q κ) (A * hiK f l s q κ) := by
  have hw := pw2_pos f
  have w0 := w_ne f
  have hc : (0 : Rat) < ((one * pw2 f : Int) : Rat) := by
    have : 0 < one * pw2 f := Int.mul_pos hone (by omega)
    exact_mod_cast this
  have e : (lo : Rat) = (pw2 f : Rat) * loK l s q κ ∧ (hi : Rat) = (pw2 f : Rat) * hiK f l s q κ := by
    match κ, hκ with
    | 0, _ => cases he; simp only [loK, hiK, Rat.intCast_mul, Rat.intCast_neg]; constructor <;> grind
    | 1, _ => cases he; simp only [loK, hiK, Rat.intCast_mul, Rat.intCast_neg]; constructor <;> grind
    | 2, _ => cases he; simp only [loK, hiK, Rat.intCast_mul, Rat.intCast_neg]; constructor <;> grind
    | 3, _ => cases he; simp only [loK, hiK, Rat.intCast_zero]; constructor <;> grind
  rw [mn_cast, mx_cast, ← mn_mul hc, ← mx_mul hc]
  simp only [Rat.intCast_mul]
  rw [hv, e.1, e.2]
  have e1 : (one : Rat) * A * ((pw2 f : Rat) * loK l s q κ) = (one : Rat) * (pw2 f : Rat) * (A * loK l s q κ) := by grind
  have e2 : (one : Rat) * A * ((pw2 f : Rat) * hiK f l s q κ) = (one : Rat) * (pw2 f : Rat) * (A * hiK f l s q κ) := by grind
  rw [e1, e2]
  exact ⟨rfl, rfl⟩
def strC : List CS := [.asg (.tup [(.name 4), (.name 5)]) (.tup [(.con (.int 0)), (.con (.int 0))]),
  .for_ (.tup [(.name 6), (.tup [(.name 8), (.name 9)])]) (.enum (.var 3)) [.asg (.name 7) (.ix (.ix (.ix (.var 0) (.var 6)) (.var 2)) (.var 1)),
    .aug 4 .Add (.bi .min2 false [(.bin .Mult false (.var 7) (.var 8)), (.bin .Mult false (.var 7) (.var 9))]),
    .aug 5 .Add (.bi .max2 false [(.bin .Mult false (.var 7) (.var 8)), (.bin .Mult false (.var 7) (.var 9))])],
  .ret (.tup [(.var 4), (.var 5)])]
def spStr (ds : List D) (S : DStore) (Q : QE) : Prop := ∃ a b f bits l s q, ∃ m at' k q0 q1 q2 q3 : Nat, ds = [toldD q0 q1 q2 q3, .int at', .int k, .lst ((endsL l s q (pw2 f)).map prD)] ∧ HB a b f bits ∧ LB l s q ∧ Told a b f m S q0 q1 q2 q3 ∧ m ≤ 15 ∧ at' < 10 ∧ k ≤ m ∧
  ∀ d u : Int, (d : Rat) = ((oneU f m * pw2 f : Int) : Rat) * dn a b f l s q k at' → (u : Rat) = ((oneU f m * pw2 f : Int) : Rat) * up a b f l s q k at' → Q (.tup [.int d, .int u]) S
theorem spStr_len : ∀ ds S Q, spStr ds S Q → ds.length = 4 := by rintro _ _ _ ⟨_, _, _, _, _, _, _, _, _, _, _, _, _, _, rfl, _⟩; rfl
theorem str_ok {G : Fns} : ∀ ds S Q, spStr ds S Q → wpSs G strC (startD 10 ds) S { nx := fun _ S' => Q .non S', rt := Q } := by
  rintro ds S Q ⟨a, b, f, bits, l, s, q, m, at', k, q0, q1, q2, q3, rfl, hh, hl, ht, hm, h10, hk, hQ⟩
  have h1 := pw2_pos f
  have h2 := pw2_le (f := f) (k := 8) (by have := hh.h.f2; omega)
  have ha : a.natAbs < 2 ^ 13 := by have := hh.a1; have := hh.a2; omega
  have hb : b.natAbs < 2 ^ 13 := by have := hh.b1; have := hh.b2; omega
  obtain ⟨r0, v0, c0, _, d0, x0, y0⟩ := ans_at (κ := 0) hh.h.f2 hm ha hb hk h10
  obtain ⟨r1, v1, c1, _, d1, x1, y1⟩ := ans_at (κ := 1) hh.h.f2 hm ha hb hk h10
  obtain ⟨r2, v2, c2, _, d2, x2, y2⟩ := ans_at (κ := 2) hh.h.f2 hm ha hb hk h10
  obtain ⟨r3, v3, c3, _, d3, x3, y3⟩ := ans_at (κ := 3) hh.h.f2 hm ha hb hk h10
  have ho := one_pos f m
  obtain ⟨m0, n0⟩ := kinds_scale (f := f) (l := l) (s := s) (q := q) 0 (by decide) ho x0 rfl
  obtain ⟨m1, n1⟩ := kinds_scale (f := f) (l := l) (s := s) (q := q) 1 (by decide) ho x1 rfl
  obtain ⟨m2, n2⟩ := kinds_scale (f := f) (l := l) (s := s) (q := q) 2 (by decide) ho x2 rfl
  obtain ⟨m3, n3⟩ := kinds_scale (f := f) (l := l) (s := s) (q := q) 3 (by decide) ho x3 rfl
  have a0 := at_map (mk := tupI) c0; have a1 := at_map (mk := tupI) c1; have a2 := at_map (mk := tupI) c2; have a3 := at_map (mk := tupI) c3
  have b0 := at_map (mk := D.int) d0; have b1 := at_map (mk := D.int) d1; have b2 := at_map (mk := D.int) d2; have b3 := at_map (mk := D.int) d3
  have t0 := ht.e0; have t1 := ht.e1; have t2 := ht.e2; have t3 := ht.e3
  have := hl.l0; have := hl.l1; have := hl.s0; have := hl.s1; have := hl.q0; have := hl.q1
  have bl := mul_bd (a := l) (b := pw2 f) (A := 1000) (B := 256) (by omega) (by omega) (by omega) (by omega)
  have bs := mul_bd (a := s) (b := pw2 f) (A := 1000) (B := 256) (by omega) (by omega) (by omega) (by omega)
  have bq := mul_bd (a := q) (b := pw2 f) (A := 1000) (B := 256) (by omega) (by omega) (by omega) (by omega)
  have bl' : -l * pw2 f = -(l * pw2 f) := Int.neg_mul ..
  have bs' : -s * pw2 f = -(s * pw2 f) := Int.neg_mul ..
  have bq' : -q * pw2 f = -(q * pw2 f) := Int.neg_mul ..
  have en : enumD ((endsL l s q (pw2 f)).map prD) = [.tup [.int 0, .tup [.int (-l * pw2 f), .int (l * pw2 f)]], .tup [.int 1, .tup [.int (-s * pw2 f), .int (s * pw2 f)]], .tup [.int 2, .tup [.int (-q * pw2 f), .int (q * pw2 f)]], .tup [.int 3, .tup [.int 0, .int (pw2 f - 1)]]] := rfl
  unfold strC
  simp_arith only [en]
  refine ⟨by trivial, walk_run ?_⟩
  simp only [wW, DL.forTurn]
  refine ⟨trivial, ?_⟩
  have tD : toldD q0 q1 q2 q3 = .lst [.ref q0, .ref q1, .ref q2, .ref q3] := rfl
  have xT : ∀ {r : List Int} {QD : D → Prop}, ixD S (tupI r) (.int at') QD = ∃ v, atI (r.map D.int) at' = some v ∧ QD v := fun {r QD} => by unfold tupI; rw [x_tup]
  (try simp_arith only [tD, t0, t1, t2, t3, a0, a1, a2, a3, xT, b0, b1, b2, b3])
  (repeat (refine And.intro (by first | omega | exact DL.mul_small_left (by omega) (by omega) | exact DL.mul_small_right (by omega) (by omega) | exact DL.div_om (by omega) (by omega) (by omega) | exact DL.cpow1 (by omega) (by omega) | exact ⟨by omega, by omega⟩ | exact DL.len_le (by (try simp only [List.length_map, List.length_append, List.length_cons, List.length_nil]); omega) | exact DL.len_lt (by (try simp only [List.length_map, List.length_append, List.length_cons, List.length_nil]); omega) | trivial | decide) ?_))
  refine hQ _ _ ?_ ?_
  · simp only [Rat.intCast_add, m0, m1, m2, m3, Rat.intCast_zero, Rat.zero_add]
    unfold dn dn1
    grind
  · simp only [Rat.intCast_add, n0, n1, n2, n3, Rat.intCast_zero, Rat.zero_add]
    unfold up up1
    grind
end DL

namespace DL
open PySem PySem.Spec PyProof.Rows L2
theorem dn_00 {a b f l s q : Int} : dn a b f l s q 0 0 = 0 := by
  have h : ∀ κ, dA a b f (eK κ) 0 0 = 0 := fun κ => rfl
  unfold dn dn1 mn
  simp only [h, Rat.zero_mul, ite_self, Rat.add_zero]
theorem up_00 {a b f l s q : Int} : up a b f l s q 0 0 = 0 := by
  have h : ∀ κ, dA a b f (eK κ) 0 0 = 0 := fun κ => rfl
  unfold up up1 mx
  simp only [h, Rat.zero_mul, ite_self, Rat.add_zero]
theorem nou_bdW {gs : List Int} (hg : ∀ x ∈ gs, -1000000 ≤ x ∧ x ≤ 1000000) (at' : Nat) (t : Int) : -5000000 ≤ nou gs at' t ∧ nou gs at' t ≤ 5000000 := by
  have h1 := W_bd (B := 1000000) (by decide) hg t
  have h2 := W_bd (B := 1000000) (by decide) hg (t + 1)
  unfold nou
  split
  · omega
  · split <;> omega
theorem nou_bd {gs : List Int} (hg : ∀ x ∈ gs, -600 ≤ x ∧ x ≤ 600) (at' : Nat) (t : Int) : -3000 ≤ nou gs at' t ∧ nou gs at' t ≤ 3000 := by
  have h1 := W_bd (B := 600) (by decide) hg t
  have h2 := W_bd (B := 600) (by decide) hg (t + 1)
  unfold nou
  split
  · omega
  · split <;> omega
/-- what a list of ends holds -/
def ebbD (a b f l s q : Int) (gs : List Int) (at' t : Nat) : D := .tup [frD (wLo a b f l s q gs at' t), frD (wHi a b f l s q gs at' t)]
def ebbC (ja je ju jm jn jb js : Nat) : List CS := [.asg (.name 4) (.bin .Sub false (.bi .len false [(.var 2)]) (.con (.int 1))),
  .par3 7 8 9 (.call ja [(.var 0), (.var 4)]) (.call je [(.var 1), (.var 0)]) (.tindex 1 (.var 3)),
  .asg (.name 5) (.bin .Mult false (.call ju [(.var 0), (.var 4)]) (.bin .LShift false (.con (.int 1)) (.ix (.var 0) (.con (.int 2))))),
  .par3 10 11 12 (.con (.int 0)) (.con (.int 0)) (.lst true []),
  .for_ (.name 6) (.range1 (.call jb [(.var 2), (.var 3)])) [.if_ (.cor (.ccmp .NotEq (.var 3) (.con (.str "place"))) (.ccmp .Gt (.var 6) (.con (.int 0)))) [.asg (.tup [(.name 14), (.name 15)]) (.call js [(.var 7), (.var 9), (.var 6), (.var 8)]),
    .par2 10 11 (.bin .Add false (.var 10) (.var 14)) (.bin .Add false (.var 11) (.var 15))] [],
    .asg (.name 13) (.call jn [(.var 2), (.var 3), (.var 6)]),
    .append (.var 12) (.tup [(.call jm [(.bin .Add false (.bin .Mult false (.var 13) (.var 5)) (.var 10)), (.var 5)]), (.call jm [(.bin .Add false (.bin .Mult false (.var 13) (.var 5)) (.var 11)), (.var 5)])])],
  .ret (.var 12)]
structure EB (a b f bits l s q : Int) (gs : List Int) (at' : Nat) : Prop where
  h : HB a b f bits
  l : LB l s q
  two : 2 ≤ gs.length
  most : gs.length ≤ 16
  bd : ∀ x ∈ gs, -1000000 ≤ x ∧ x ≤ 1000000
  a10 : at' < 10
def spEbb (ds : List D) (S : DStore) (Q : QE) : Prop := ∃ a b f bits l s q gs at', ds = [hndD a b f bits, letsD l s q, .tup (gs.map D.int), .str (nmS at')] ∧ EB a b f bits l s q gs at' ∧
  ∀ p S', Kp S S' → S'[p]? = some (.lst ((List.range (beats gs at')).map (ebbD a b f l s q gs at'))) → Q (.ref p) S'
theorem spEbb_len : ∀ ds S Q, spEbb ds S Q → ds.length = 4 := by rintro _ _ _ ⟨_, _, _, _, _, _, _, _, _, rfl, _⟩; rfl
theorem fr_end {own least under : Int} {x : Rat} (h : 0 < under) (hl : (least : Rat) = (under : Rat) * x) : ((own * under + least : Int) : Rat) / (under : Rat) = (own : Rat) + x := by
  have := icast_ne (U := under) (by omega)
  simp only [Rat.intCast_add, Rat.intCast_mul]
  rw [hl]; grind
theorem ebb_ok {G : Fns} {ja je ju jm jn jb js : Nat} (ha : G.fn ja = spAnss) (he : G.fn je = spEnds) (hu : G.fn ju = spUnitOf) (hm : G.fn jm = spMade) (hn : G.fn jn = spNou) (hb : G.fn jb = spBeats) (hs : G.fn js = spStr) (hG : G.gl 1 = .tup (szN.map D.str)) :
    ∀ ds S Q, spEbb ds S Q → wpSs G (ebbC ja je ju jm jn jb js) (startD 16 ds) S { nx := fun _ S' => Q .non S', rt := Q } := by
  rintro ds S Q ⟨a, b, f, bits, l, s, q, gs, at', rfl, E, hQ⟩
  have h2g := E.two; have h16 := E.most; have h10 := E.a10
  have hf1 := E.h.h.f1; have hf2 := E.h.h.f2
  have hw1 := pw2_pos f
  have hw2 := pw2_le (f := f) (k := 8) (by omega)
  have eM : ((gs.length : Int) - 1) = ((gs.length - 1 : Nat) : Int) := by omega
  have hbt : beats gs at' ≤ gs.length := by unfold beats; split <;> omega
  have hbt1 : at' ≠ 0 → beats gs at' = gs.length - 1 := fun h => by unfold beats; rw [if_neg h]
  generalize hM : gs.length - 1 = m at *
  have ho := one_pos f m
  have hob := one_bd (f := f) (m := m) hf2 (by omega)
  have hUn : 0 < oneU f m * pw2 f := Int.mul_pos ho (by omega)
  have hUb : (oneU f m * pw2 f).natAbs < 2 ^ (138 + 9) := natAbs_mul_lt hob (by omega)
  have nbd := nou_bdW E.bd at'
  have npl := nm_place at' h10
  unfold ebbC
  refine ss_split 4 (fun ρ S' => ∃ p q0 q1 q2 q3, ρ = [some (hndD a b f bits), some (letsD l s q), some (.tup (gs.map D.int)), some (.str (nmS at')), some (.int m), some (.int (oneU f m * pw2 f)), none, some (toldD q0 q1 q2 q3), some (.lst ((endsL l s q (pw2 f)).map prD)), some (.int at'), some (.int 0), some (.int 0), some (.ref p), none, none, none] ∧ Kp S S' ∧ S.length ≤ p ∧ S'[p]? = some (.lst []) ∧ Told a b f m S' q0 q1 q2 q3 ∧ q0 ≠ p ∧ q1 ≠ p ∧ q2 ≠ p ∧ q3 ≠ p) (fun N hN => ?_) ?_
  · simp_arith only [List.length_map, eM, ha]
    refine ⟨a, b, f, bits, m, rfl, E.h.h, by omega, fun q0 q1 q2 q3 S1 k1 t1 => ?_⟩
    (try simp_arith only [he])
    refine ⟨l, s, q, a, b, f, bits, rfl, E.h.h, E.l, ?_⟩
    refine ⟨szN, hG, nmS at', at', rfl, (nm_at at' h10).1, (nm_at at' h10).2, ?_⟩
    (try simp_arith only [hu])
    refine ⟨a, b, f, bits, m, rfl, E.h.h, by omega, ?_⟩
    unfold hndD
    (try simp_arith only [pw2_one])
    refine ⟨cpow1 (by omega) (by omega), mul_small_right (by omega) (by omega), ?_⟩
    have lt : ∀ {q : Nat} {c : Cell}, S1[q]? = some c → q ≠ S1.length := fun h => Nat.ne_of_lt (List.getElem?_eq_some_iff.mp h).1
    have kp : Kp S1 (S1 ++ [Cell.lst []]) := fun j c hj => by rw [List.getElem?_append_left (List.getElem?_eq_some_iff.mp hj).1]; exact hj
    exact hN _ _ ⟨S1.length, q0, q1, q2, q3, rfl, k1.trans kp, k1.len, by simp, t1.keep kp, lt t1.e0, lt t1.e1, lt t1.e2, lt t1.e3⟩
  rintro ρ S1 ⟨p, q0, q1, q2, q3, rfl, hK, hSp, hp, hT, n0, n1, n2, n3⟩
  generalize hUU : oneU f m * pw2 f = U at *
  (try simp_arith only [hb])
  refine ⟨gs, at', rfl, h10, by omega, ?_⟩
  (try simp_arith only [])
  (repeat (refine And.intro (by first | omega | exact DL.mul_small_left (by omega) (by omega) | exact DL.mul_small_right (by omega) (by omega) | exact DL.div_om (by omega) (by omega) (by omega) | exact DL.cpow1 (by omega) (by omega) | exact ⟨by omega, by omega⟩ | exact DL.len_le (by (try simp only [List.length_map, List.length_append, List.length_cons, List.length_nil]); omega) | exact DL.len_lt (by (try simp only [List.length_map, List.length_append, List.length_cons, List.length_nil]); omega) | trivial | decide) ?_))
  refine walk_range (fun i ρ S' => i ≤ beats gs at' ∧ ∃ (least greatest : Int) (r6 r13 r14 r15 : Option D), ρ = [some (hndD a b f bits), some (letsD l s q), some (.tup (gs.map D.int)), some (.str (nmS at')), some (.int m), some (.int U), r6, some (toldD q0 q1 q2 q3), some (.lst ((endsL l s q (pw2 f)).map prD)), some (.int at'), some (.int least), some (.int greatest), some (.ref p), r13, r14, r15] ∧ Kp S S' ∧ S'[p]? = some (.lst ((List.range i).map (ebbD a b f l s q gs at'))) ∧ Told a b f m S' q0 q1 q2 q3 ∧ (least : Rat) = (U : Rat) * sLo a b f l s q at' i ∧ (greatest : Rat) = (U : Rat) * sHi a b f l s q at' i)
    ⟨by omega, 0, 0, none, none, none, none, rfl, hK, hp, hT, by simp [sLo], by simp [sHi]⟩ (fun _ _ _ _ => trivial) (fun i ρ S' hi hP => ?_) (fun ρ S' hP => ?_)
  · obtain ⟨hib, least, greatest, r6, r13, r14, r15, rfl, hK, hp, hT, hlo, hhi⟩ := hP
    have hi' : i < beats gs at' := by omega
    have hz : (0 : Int) + (i : Int) = (i : Int) := by omega
    rw [hz]
    have him : i ≤ m := by
      by_cases e : at' = 0
      · omega
      · have := hbt1 e; omega
    unfold DL.forTurn
    rw [g_name]
    simp only [List.set_cons_succ, List.set_cons_zero]
    refine ss_split 1 (fun ρ S' => ∃ (least greatest : Int) (r14 r15 : Option D), ρ = [some (hndD a b f bits), some (letsD l s q), some (.tup (gs.map D.int)), some (.str (nmS at')), some (.int m), some (.int U), some (.int i), some (toldD q0 q1 q2 q3), some (.lst ((endsL l s q (pw2 f)).map prD)), some (.int at'), some (.int least), some (.int greatest), some (.ref p), r13, r14, r15] ∧ Kp S S' ∧ S'[p]? = some (.lst ((List.range i).map (ebbD a b f l s q gs at'))) ∧ Told a b f m S' q0 q1 q2 q3 ∧ (least : Rat) = (U : Rat) * sLo a b f l s q at' (i + 1) ∧ (greatest : Rat) = (U : Rat) * sHi a b f l s q at' (i + 1)) (fun N hN => ?_) ?_
    · have go : ∀ (N' : QE), (∀ d u : Int, (d : Rat) = (U : Rat) * dn a b f l s q i at' → (u : Rat) = (U : Rat) * up a b f l s q i at' → N' (.tup [.int d, .int u]) S') → G.fn js [toldD q0 q1 q2 q3, .int at', .int i, .lst ((endsL l s q (pw2 f)).map prD)] S' N' := fun N' hN' => by
        rw [hs]
        refine ⟨a, b, f, bits, l, s, q, m, at', i, q0, q1, q2, q3, rfl, E.h, E.l, hT, by omega, h10, him, fun d u hd hu => hN' d u ?_ ?_⟩
        · rw [hd, hUU]
        · rw [hu, hUU]
      have fin : ∀ d u : Int, (d : Rat) = (U : Rat) * dn a b f l s q i at' → (u : Rat) = (U : Rat) * up a b f l s q i at' → ((least + d : Int) : Rat) = (U : Rat) * sLo a b f l s q at' (i + 1) ∧ ((greatest + u : Int) : Rat) = (U : Rat) * sHi a b f l s q at' (i + 1) := fun d u hd hu => by
        simp only [Rat.intCast_add, sLo, sHi]
        rw [hlo, hhi, hd, hu]
        constructor <;> grind
      (try simp_arith only [npl])
      refine if_i (fun e => ?_) fun e => ?_
      · refine go _ fun d u hd hu => ?_
        (try simp_arith only [])
        refine ⟨by trivial, hN _ _ ⟨least + d, greatest + u, _, _, rfl, hK, hp, hT, (fin d u hd hu).1, (fin d u hd hu).2⟩⟩
      · refine if_i (fun e' => ?_) fun e' => ?_
        · refine go _ fun d u hd hu => ?_
          (try simp_arith only [])
          refine ⟨by trivial, hN _ _ ⟨least + d, greatest + u, _, _, rfl, hK, hp, hT, (fin d u hd hu).1, (fin d u hd hu).2⟩⟩
        · have ea : at' = 0 := by omega
          have ei : i = 0 := by omega
          refine hN _ _ ⟨least, greatest, _, _, rfl, hK, hp, hT, ?_, ?_⟩
          · rw [hlo, ei, ea]; simp only [sLo, dn_00, Rat.add_zero]
          · rw [hhi, ei, ea]; simp only [sHi, up_00, Rat.add_zero]
    · rintro ρ S2 ⟨least, greatest, r14, r15, rfl, hK, hp, hT, hlo, hhi⟩
      have nb := nbd i
      (try simp_arith only [hn])
      refine ⟨gs, at', i, rfl, h10, by omega, fun e => by have := hbt1 (by omega); omega, by omega, ?_⟩
      (try simp_arith only [hm])
      refine ⟨lat hp, mul_small_left (by omega) (by omega), madeF hUn hUb (by decide) ?_⟩
      refine ⟨mul_small_left (by omega) (by omega), madeF hUn hUb (by decide) ?_⟩
      rw [fr_end hUn hlo, fr_end hUn hhi]
      refine ⟨_, hp, len_lt (by rw [List.length_map, List.length_range]; omega), by omega, least, greatest, _, _, _, _, rfl, ?_, ?_, ?_, hlo, hhi⟩
      · intro j c hj
        have := (List.getElem?_eq_some_iff.mp hj).1
        rw [List.getElem?_set_ne (by omega)]; exact hK j c hj
      · rw [set_get hp, List.range_succ, List.map_append]; rfl
      · exact ⟨by rw [List.getElem?_set_ne (Ne.symm n0)]; exact hT.e0, by rw [List.getElem?_set_ne (Ne.symm n1)]; exact hT.e1, by rw [List.getElem?_set_ne (Ne.symm n2)]; exact hT.e2, by rw [List.getElem?_set_ne (Ne.symm n3)]; exact hT.e3⟩
  · obtain ⟨hib, least, greatest, r6, r13, r14, r15, rfl, hK, hp, hT, hlo, hhi⟩ := hP
    have e : ((beats gs at' : Int) - 0).toNat = beats gs at' := by omega
    rw [e] at hp
    (try simp_arith only [])
    exact hQ p S' hK hp
/-! ### the worst -/
def worstC (je : Nat) : List CS := [.ret (.ix (.call je [(.var 0), (.var 1), (.var 2), (.var 3)]) (.var 4))]
def spWorst (ds : List D) (S : DStore) (Q : QE) : Prop := ∃ a b f bits l s q gs at', ∃ t : Nat, ds = [hndD a b f bits, letsD l s q, .tup (gs.map D.int), .str (nmS at'), .int t] ∧ EB a b f bits l s q gs at' ∧ t < beats gs at' ∧
  ∀ S', Kp S S' → Q (ebbD a b f l s q gs at' t) S'
theorem spWorst_len : ∀ ds S Q, spWorst ds S Q → ds.length = 5 := by rintro _ _ _ ⟨_, _, _, _, _, _, _, _, _, _, rfl, _⟩; rfl
theorem worst_ok {G : Fns} {je : Nat} (he : G.fn je = spEbb) : ∀ ds S Q, spWorst ds S Q → wpSs G (worstC je) (startD 5 ds) S { nx := fun _ S' => Q .non S', rt := Q } := by
  rintro ds S Q ⟨a, b, f, bits, l, s, q, gs, at', t, rfl, E, ht, hQ⟩
  unfold worstC
  simp_arith only [he]
  refine ⟨a, b, f, bits, l, s, q, gs, at', rfl, E, fun p S' hK hp => ?_⟩
  have e := at_map (mk := ebbD a b f l s q gs at') (l := List.range (beats gs at')) (k := t) (x := t) (by rw [List.getElem?_range ht])
  (try simp_arith only [hp, e])
  exact hQ S' hK
/-! ### the shares -/
def sharesC (ja ju jm jn : Nat) : List CS := [.asg (.name 4) (.call ja [(.var 0), (.var 3)]),
  .asg (.tup [(.name 7), (.name 8)]) (.tup [(.tindex 1 (.var 2)), (.call ju [(.var 0), (.var 3)])]),
  .asg (.name 5) (.lst true []),
  .for_ (.name 6) (.range1 (.ite (.ccmp .Eq (.var 2) (.con (.str "place"))) (.var 3) (.bin .Add false (.var 3) (.con (.int 1))))) [.append (.var 5) (.bi .tuple1 false [(.lc false (.call jm [(.ix (.ix (.ix (.var 4) (.var 9)) (.bin .Sub false (.var 3) (.var 6))) (.var 7)), (.var 8)]) (.name 9) (.range1 (.glo 0)) [] [9])])],
  .ret (.tup [(.tup [(.call jn [(.var 1), (.var 2), (.var 3)]), (.con (.int 1))]), (.bi .tuple1 false [(.var 5)])])]
/-- the shares of a row, so many beats behind -/
def shR (a b f : Int) (at' k : Nat) : D := .tup [frD (dA a b f (eK 0) k at'), frD (dA a b f (eK 1) k at'), frD (dA a b f (eK 2) k at'), frD (dA a b f (eK 3) k at')]
def shN (at' t : Nat) : Nat := if at' = 0 then t else t + 1
def sharesD (a b f : Int) (gs : List Int) (at' t : Nat) : D := .tup [.tup [.int (nou gs at' t), .int 1], .tup ((List.range (shN at' t)).map fun j => shR a b f at' (t - j))]
def spShares (ds : List D) (S : DStore) (Q : QE) : Prop := ∃ a b f bits l s q gs at', ∃ t : Nat, ds = [hndD a b f bits, .tup (gs.map D.int), .str (nmS at'), .int t] ∧ EB a b f bits l s q gs at' ∧ t < beats gs at' ∧
  ∀ S', Kp S S' → Q (sharesD a b f gs at' t) S'
theorem spShares_len : ∀ ds S Q, spShares ds S Q → ds.length = 4 := by rintro _ _ _ ⟨_, _, _, _, _, _, _, _, _, _, rfl, _⟩; rfl
theorem shares_ok {G : Fns} {ja ju jm jn : Nat} (ha : G.fn ja = spAnss) (hu : G.fn ju = spUnitOf) (hm : G.fn jm = spMade) (hn : G.fn jn = spNou) (h4 : G.gl 0 = .int 4) (hG : G.gl 1 = .tup (szN.map D.str)) : ∀ ds S Q, spShares ds S Q → wpSs G (sharesC ja ju jm jn) (startD 10 ds) S { nx := fun _ S' => Q .non S', rt := Q } := by
  rintro ds S Q ⟨a, b, f, bits, l, s, q, gs, at', t, rfl, E, ht, hQ⟩
  have h2g := E.two; have h16 := E.most; have h10 := E.a10
  have hf1 := E.h.h.f1; have hf2 := E.h.h.f2
  have hA : a.natAbs < 2 ^ 13 := by have := E.h.a1; have := E.h.a2; omega
  have hBb : b.natAbs < 2 ^ 13 := by have := E.h.b1; have := E.h.b2; omega
  have hbt : beats gs at' ≤ gs.length := by unfold beats; split <;> omega
  have hbt1 : at' ≠ 0 → beats gs at' = gs.length - 1 := fun h => by unfold beats; rw [if_neg h]
  have npl := nm_place at' h10
  have ho := one_pos f t
  have hob := one_bd (f := f) (m := t) hf2 (by omega)
  have o0 := icast_ne (U := oneU f t) (by omega)
  have hsh : (if at' = 0 then (t : Int) else (t : Int) + 1) = (shN at' t : Nat) := by unfold shN; split <;> simp
  have hsh2 : shN at' t ≤ t + 1 := by unfold shN; split <;> omega
  unfold sharesC
  refine ss_split 3 (fun ρ S' => ∃ p q0 q1 q2 q3, ρ = [some (hndD a b f bits), some (.tup (gs.map D.int)), some (.str (nmS at')), some (.int t), some (toldD q0 q1 q2 q3), some (.ref p), none, some (.int at'), some (.int (oneU f t)), none] ∧ Kp S S' ∧ S.length ≤ p ∧ S'[p]? = some (.lst []) ∧ Told a b f t S' q0 q1 q2 q3 ∧ q0 ≠ p ∧ q1 ≠ p ∧ q2 ≠ p ∧ q3 ≠ p) (fun N hN => ?_) ?_
  · simp_arith only [ha]
    refine ⟨a, b, f, bits, t, rfl, E.h.h, by omega, fun q0 q1 q2 q3 S1 k1 t1 => ?_⟩
    (try simp_arith only [hu])
    refine ⟨szN, hG, nmS at', at', rfl, (nm_at at' h10).1, (nm_at at' h10).2, ?_⟩
    refine ⟨a, b, f, bits, t, rfl, E.h.h, by omega, ?_⟩
    (try simp_arith only [])
    have lt : ∀ {q : Nat} {c : Cell}, S1[q]? = some c → q ≠ S1.length := fun h => Nat.ne_of_lt (List.getElem?_eq_some_iff.mp h).1
    have kp : Kp S1 (S1 ++ [Cell.lst []]) := fun j c hj => by rw [List.getElem?_append_left (List.getElem?_eq_some_iff.mp hj).1]; exact hj
    exact ⟨by trivial, hN _ _ ⟨S1.length, q0, q1, q2, q3, rfl, k1.trans kp, k1.len, by simp, t1.keep kp, lt t1.e0, lt t1.e1, lt t1.e2, lt t1.e3⟩⟩
  rintro ρ S1 ⟨p, q0, q1, q2, q3, rfl, hK, hSp, hp, hT, n0, n1, n2, n3⟩
  refine ss_split 1 (fun ρ S' => ∃ r6 r9 : Option D, ρ = [some (hndD a b f bits), some (.tup (gs.map D.int)), some (.str (nmS at')), some (.int t), some (toldD q0 q1 q2 q3), some (.ref p), r6, some (.int at'), some (.int (oneU f t)), r9] ∧ Kp S S' ∧ S'[p]? = some (.lst ((List.range (shN at' t)).map fun j => shR a b f at' (t - j)))) (fun N hN => ?_) ?_
  · have wk : ∀ S1 : DStore, Kp S S1 → S1[p]? = some (.lst []) → Told a b f t S1 q0 q1 q2 q3 → ∀ turn, (∀ (i : Nat) ρ S', (i : Int) < (shN at' t : Nat) → (∃ r6 r9 : Option D, ρ = [some (hndD a b f bits), some (.tup (gs.map D.int)), some (.str (nmS at')), some (.int t), some (toldD q0 q1 q2 q3), some (.ref p), r6, some (.int at'), some (.int (oneU f t)), r9] ∧ Kp S S' ∧ Told a b f t S' q0 q1 q2 q3 ∧ S'[p]? = some (.lst ((List.range i).map fun j => shR a b f at' (t - j)))) →
        turn (.int (0 + (i : Int))) ρ S' fun ρ S' => (∃ r6 r9 : Option D, ρ = [some (hndD a b f bits), some (.tup (gs.map D.int)), some (.str (nmS at')), some (.int t), some (toldD q0 q1 q2 q3), some (.ref p), r6, some (.int at'), some (.int (oneU f t)), r9] ∧ Kp S S' ∧ Told a b f t S' q0 q1 q2 q3 ∧ S'[p]? = some (.lst ((List.range (i + 1)).map fun j => shR a b f at' (t - j))))) →
        ∀ z : Int, z = (shN at' t : Nat) → wpWalk (rangeD 0 z) (fun _ => True) [some (hndD a b f bits), some (.tup (gs.map D.int)), some (.str (nmS at')), some (.int t), some (toldD q0 q1 q2 q3), some (.ref p), none, some (.int at'), some (.int (oneU f t)), none] S1 turn N := fun S1 hK hp hT turn h z hz => by
      subst hz
      refine walk_range (fun i ρ S' => ∃ r6 r9 : Option D, ρ = [some (hndD a b f bits), some (.tup (gs.map D.int)), some (.str (nmS at')), some (.int t), some (toldD q0 q1 q2 q3), some (.ref p), r6, some (.int at'), some (.int (oneU f t)), r9] ∧ Kp S S' ∧ Told a b f t S' q0 q1 q2 q3 ∧ S'[p]? = some (.lst ((List.range i).map fun j => shR a b f at' (t - j)))) ⟨none, none, rfl, hK, hT, hp⟩ (fun _ _ _ _ => trivial) (fun i ρ S' hi hP => h i ρ S' (by omega) hP) (fun ρ S' hP => ?_)
      obtain ⟨r6, r9, rfl, hK, hT, hp⟩ := hP
      rw [show ((shN at' t : Int) - 0).toNat = shN at' t by omega] at hp
      exact hN _ _ ⟨r6, r9, rfl, hK, hp⟩
    have turnOk : ∀ (i : Nat) ρ S', (i : Int) < (shN at' t : Nat) → (∃ r6 r9 : Option D, ρ = [some (hndD a b f bits), some (.tup (gs.map D.int)), some (.str (nmS at')), some (.int t), some (toldD q0 q1 q2 q3), some (.ref p), r6, some (.int at'), some (.int (oneU f t)), r9] ∧ Kp S S' ∧ Told a b f t S' q0 q1 q2 q3 ∧ S'[p]? = some (.lst ((List.range i).map fun j => shR a b f at' (t - j)))) → ∀ rt nx,
        forTurn G (.name 6) [.append (.var 5) (.bi .tuple1 false [(.lc false (.call jm [(.ix (.ix (.ix (.var 4) (.var 9)) (.bin .Sub false (.var 3) (.var 6))) (.var 7)), (.var 8)]) (.name 9) (.range1 (.glo 0)) [] [9])])] rt nx (.int (0 + (i : Int))) ρ S' fun ρ S' => (∃ r6 r9 : Option D, ρ = [some (hndD a b f bits), some (.tup (gs.map D.int)), some (.str (nmS at')), some (.int t), some (toldD q0 q1 q2 q3), some (.ref p), r6, some (.int at'), some (.int (oneU f t)), r9] ∧ Kp S S' ∧ Told a b f t S' q0 q1 q2 q3 ∧ S'[p]? = some (.lst ((List.range (i + 1)).map fun j => shR a b f at' (t - j)))) := by
      rintro i ρ S' hi ⟨r6, r9, rfl, hK, hT, hp⟩ rt nx
      have hk : t - i ≤ t := by omega
      have ek : (t : Int) - (0 + (i : Int)) = ((t - i : Nat) : Int) := by omega
      obtain ⟨r0, v0, c0, _, d0, x0, y0⟩ := ans_at (κ := 0) hf2 (by omega) hA hBb hk h10
      obtain ⟨r1, v1, c1, _, d1, x1, y1⟩ := ans_at (κ := 1) hf2 (by omega) hA hBb hk h10
      obtain ⟨r2, v2, c2, _, d2, x2, y2⟩ := ans_at (κ := 2) hf2 (by omega) hA hBb hk h10
      obtain ⟨r3, v3, c3, _, d3, x3, y3⟩ := ans_at (κ := 3) hf2 (by omega) hA hBb hk h10
      have a0 := at_map (mk := tupI) c0; have a1 := at_map (mk := tupI) c1; have a2 := at_map (mk := tupI) c2; have a3 := at_map (mk := tupI) c3
      have b0 := at_map (mk := D.int) d0; have b1 := at_map (mk := D.int) d1; have b2 := at_map (mk := D.int) d2; have b3 := at_map (mk := D.int) d3
      have t0 := hT.e0; have t1 := hT.e1; have t2 := hT.e2; have t3 := hT.e3
      have er : rangeD 0 4 = [.int 0, .int 1, .int 2, .int 3] := rfl
      have tD : toldD q0 q1 q2 q3 = .lst [.ref q0, .ref q1, .ref q2, .ref q3] := rfl
      have xT : ∀ {S : DStore} {r : List Int} {QD : D → Prop}, ixD S (tupI r) (.int at') QD = ∃ v, atI (r.map D.int) at' = some v ∧ QD v := fun {S r QD} => by unfold tupI; rw [x_tup]
      have dv : ∀ {v : Int} {A : Rat}, (v : Rat) = (oneU f t : Rat) * A → (v : Rat) / (oneU f t : Rat) = A := fun h => by rw [h]; grind
      unfold DL.forTurn
      (try simp_arith only [h4, er])
      refine ⟨lat hp, ⟨by decide, by decide⟩, gather_run (by show 4 ≤ sizeLine; decide) ?_⟩
      simp only [gW, DL.lcTurn]
      refine ⟨by simp, ?_⟩
      (try simp_arith only [tD, ek, t0, t1, t2, t3, a0, a1, a2, a3, xT, b0, b1, b2, b3, hm])
      refine madeF ho hob (by decide) ⟨by simp, ?_⟩
      (try simp_arith only [tD, ek, t0, t1, t2, t3, a0, a1, a2, a3, xT, b0, b1, b2, b3, hm])
      refine madeF ho hob (by decide) ⟨by simp, ?_⟩
      (try simp_arith only [tD, ek, t0, t1, t2, t3, a0, a1, a2, a3, xT, b0, b1, b2, b3, hm])
      refine madeF ho hob (by decide) ⟨by simp, ?_⟩
      (try simp_arith only [tD, ek, t0, t1, t2, t3, a0, a1, a2, a3, xT, b0, b1, b2, b3, hm])
      refine madeF ho hob (by decide) ⟨by simp, ?_⟩
      (try simp_arith only [tD, ek, t0, t1, t2, t3, a0, a1, a2, a3, xT, b0, b1, b2, b3, hm])
      rw [dv x0, dv x1, dv x2, dv x3]
      refine ⟨_, hp, len_lt (by rw [List.length_map, List.length_range]; omega), _, _, rfl, ?_, ?_, ?_⟩
      · intro j c hj
        have := (List.getElem?_eq_some_iff.mp hj).1
        rw [List.getElem?_set_ne (by omega)]; exact hK j c hj
      · exact ⟨by rw [List.getElem?_set_ne (Ne.symm n0)]; exact hT.e0, by rw [List.getElem?_set_ne (Ne.symm n1)]; exact hT.e1, by rw [List.getElem?_set_ne (Ne.symm n2)]; exact hT.e2, by rw [List.getElem?_set_ne (Ne.symm n3)]; exact hT.e3⟩
      · rw [set_get hp, List.range_succ, List.map_append]; rfl
    (try simp_arith only [npl])
    refine if_i (fun e => ?_) fun e => ?_
    · refine ⟨⟨by omega, by omega⟩, ?_⟩
      rw [if_pos e] at hsh
      simp only [s_nilA]
      exact wk S1 hK hp hT _ (fun i ρ S' hi h => turnOk i ρ S' hi h _ _) _ hsh
    · refine ⟨⟨by omega, by omega⟩, ?_⟩
      rw [if_neg e] at hsh
      simp only [s_nilA]
      exact wk S1 hK hp hT _ (fun i ρ S' hi h => turnOk i ρ S' hi h _ _) _ hsh
  rintro ρ S2 ⟨r6, r9, rfl, hK, hp⟩
  (try simp_arith only [hn])
  refine ⟨gs, at', t, rfl, h10, by omega, fun e => by have := hbt1 (by omega); omega, by omega, ?_⟩
  (try simp_arith only [hp])
  exact hQ S2 hK
end DL

namespace DL
open PySem PySem.Spec PyProof.Rows L2
/-! ### sizes of a run are sums -/
theorem W_next {gs : List Int} {t : Nat} (h : t + 1 < gs.length) : pcW gs (t + 1 : Nat) = ltW gs t ∧ gI gs (t + 1 : Nat) = gI gs t + pcW gs (t + 1 : Nat) := by
  unfold pcW ltW
  rw [if_pos (by omega), if_pos (by omega), show ((t + 1 : Nat) : Int) - 1 = (t : Int) by omega, show ((t + 1 : Nat) : Int) = (t : Int) + 1 by omega]
  constructor
  · rfl
  · omega
theorem U_bd {f : Int} {n : Nat} (h0 : 0 ≤ f) (h8 : f ≤ 8) (hn : n ≤ 15) : (12 * pw2 f ^ (n + 1)).natAbs < 2 ^ (150 - 12) := by
  have hp := pw2_pos f
  have h2 : (pw2 f).natAbs ≤ 2 ^ 8 := by have := pw2_le (f := f) (k := 8) (by omega); omega
  rw [Int.natAbs_mul, Int.natAbs_pow]
  have h3 : (pw2 f).natAbs ^ (n + 1) ≤ (2 ^ 8) ^ (n + 1) := Nat.pow_le_pow_left h2 _
  rw [← Nat.pow_mul] at h3
  have h4 : (2 : Nat) ^ (8 * (n + 1)) ≤ 2 ^ 128 := Nat.pow_le_pow_right (by decide) (by omega)
  have h5 : (12 : Int).natAbs = 12 := rfl
  rw [h5]
  have h6 : 12 * 2 ^ 128 < 2 ^ (150 - 12) := by decide
  omega
theorem iSizes_len {U a b f : Int} {gs : List Int} : ∀ (l : List LRow) t s, (iSizes U a b f gs t s l).length = l.length := fun l => by
  induction l with
  | nil => intro t s; rfl
  | cons x l ih => intro t s; simp [iSizes, ih]
theorem unit_pos {f : Int} {gs : List Int} (h : 0 ≤ f) : 0 < unitU f gs := by
  have := pw2_pos f
  rw [unit_pow h]; exact Int.mul_pos (by decide) (Int.pow_pos (by omega))
theorem sizes_all {a b f bits l s q : Int} {gs : List Int} {rs : List LRow} (hh : HB a b f bits) (hl : LB l s q) (hg : GsOk 15 gs) (hlen : rs.length + 1 = gs.length) (hr : ∀ r ∈ rs, RowOk f l s q r) {t at' : Nat} (ht : t < beats gs at') (h10 : at' < 10) :
    ∃ (row : List Int) (v : Int), (allSizes (unitU f gs) a b f gs rs)[t]? = some row ∧ row[at']? = some v ∧ (v : Rat) = (unitU f gs : Rat) * ((nou gs at' t : Rat) + conv a b f at' t rs) ∧ v.natAbs < 2 ^ 701 := by
  have g1 := hg.two
  have g2 := hg.most
  have hf0 := hh.h.f1; have hf8 := hh.h.f2
  have hUe : unitU f gs = 12 * pw2 f ^ (gs.length + 1) := unit_pow hf0
  have hUb : (unitU f gs).natAbs < 2 ^ (150 - 12) := by rw [hUe]; exact U_bd hf0 hf8 (by omega)
  have hU0 : 0 < unitU f gs := unit_pos hf0
  have bg := gI_bd (B := 600) (by decide) hg.bd 0
  have b0 : (gI gs 0 * unitU f gs).natAbs < 2 ^ (152 + 24 * 0) := lt_up (natAbs_mul_lt (k := 12) (by omega) hUb) (by decide)
  have d0 : pw2 f ^ (gs.length + 1) ∣ gI gs 0 * unitU f gs := Int.dvd_mul_of_dvd_right ⟨12, by rw [hUe, Int.mul_comm]⟩
  have p0 : pcW gs (0 : Nat) = 0 := by unfold pcW; rw [if_neg (by omega)]
  obtain ⟨j1, ⟨dE, j2, j3⟩, j4⟩ := sizes_g (U := unitU f gs) (a := a) (b := b) (f := f) (gs := gs) (n := gs.length) (K := 152) (L := gs.length - 1) hU0 ⟨12, by rw [hUe, Int.mul_comm]⟩ hUb (by decide)
    (by have := hh.a1; have := hh.a2; omega) (by have := hh.b1; have := hh.b2; omega) (fun x hx => by have := hg.bd x hx; omega) (fun t ht => W_next (by omega)) rs 0 (gs.length + 1) z0 (iS0 (unitU f gs) gs) (by omega) (by omega) (by omega) (by decide) (by omega)
    ⟨by show ((gI gs 0 * unitU f gs : Int) : Rat) = _ * ((0 : Rat) + (gI gs (0 : Nat) : Rat)); rw [Rat.intCast_mul]; simp only [Int.natCast_zero]; grind, by rw [p0]; show ((0 : Int) : Rat) = _ * ((0 : Rat) + ((0 : Int) : Rat)); simp only [Rat.intCast_zero]; grind, by rw [p0]; show ((gI gs 0 * unitU f gs : Int) : Rat) = _ * ((0 : Rat) + (gI gs (0 : Nat) : Rat) - ((0 : Int) : Rat)); rw [Rat.intCast_mul]; simp only [Int.natCast_zero, Rat.intCast_zero]; grind⟩
    ⟨d0, ⟨0, by show (0 : Int) = _; simp⟩, d0⟩ ⟨b0, by show (0 : Int).natAbs < _; exact Nat.two_pow_pos _, b0⟩ fun r hx => run_r hf0 hf8 hUe hUb (by decide) hl (hr r hx)
  unfold allSizes
  by_cases hlt : t < rs.length
  · obtain ⟨row, v, e1, _, e2, e3, e4⟩ := j1 t at' hlt h10
    refine ⟨row, v, ?_, e2, ?_, lt_up e4 (by decide)⟩
    · rw [List.getElem?_append_left (by rw [iSizes_len]; exact hlt)]; exact e1
    · rw [e3, dAt_z0 (by omega)]; simp only [Nat.zero_add]
  · have ha : at' = 0 := by
      unfold beats at ht
      split at ht
      · assumption
      · omega
    subst ha
    have hte : t = rs.length := by
      unfold beats at ht
      rw [if_pos rfl] at ht
      omega
    subst hte
    have bz := gI_bd (B := 600) (by decide) hg.bd ((gs.length : Int) - 1)
    refine ⟨[(iEnd (unitU f gs) a b f gs 0 (iS0 (unitU f gs) gs) rs).x - gI gs ((gs.length : Int) - 1) * unitU f gs], _, by rw [List.getElem?_append_right (by rw [iSizes_len]; omega), iSizes_len]; simp, rfl, ?_, ?_⟩
    · have n0 : nou gs 0 (rs.length : Nat) = 0 := by unfold nou; rw [if_neg (by decide), if_neg (by omega)]
      have e1 := j2.x
      rw [j3, dAt_z0 (by omega)] at e1
      rw [n0, Rat.intCast_sub, Rat.intCast_mul, e1, show ((0 + rs.length : Nat) : Int) = (gs.length : Int) - 1 by omega, Rat.intCast_zero]
      grind
    · exact lt_up (natAbs_sub_lt j4.x (lt_up (natAbs_mul_lt (k := 12) (by omega) hUb) (by decide))) (by decide)
/-! ### within the ends -/
theorem mn_le {A lo hi r : Rat} (h1 : lo ≤ r) (h2 : r ≤ hi) : mn (A * lo) (A * hi) ≤ A * r ∧ A * r ≤ mx (A * lo) (A * hi) := by
  have key : (A * lo ≤ A * r ∧ A * r ≤ A * hi) ∨ (A * hi ≤ A * r ∧ A * r ≤ A * lo) := by
    rcases Rat.le_total (a := 0) (b := A) with h | h
    · exact .inl ⟨Rat.mul_le_mul_of_nonneg_left h1 h, Rat.mul_le_mul_of_nonneg_left h2 h⟩
    · have h' : 0 ≤ -A := by grind
      have a1 := Rat.mul_le_mul_of_nonneg_left h1 h'
      have a2 := Rat.mul_le_mul_of_nonneg_left h2 h'
      right
      constructor <;> grind
  unfold mn mx
  rcases key with ⟨k1, k2⟩ | ⟨k1, k2⟩
  · constructor
    · split <;> grind
    · split <;> grind
  · constructor
    · split <;> grind
    · split <;> grind
/-- a row is within the ends of all kinds -/
structure InK (f l s q : Int) (r : LRow) : Prop where
  l1 : loK l s q 0 ≤ r.l
  l2 : r.l ≤ hiK f l s q 0
  s1 : loK l s q 1 ≤ r.s
  s2 : r.s ≤ hiK f l s q 1
  m1 : loK l s q 2 ≤ r.m
  m2 : r.m ≤ hiK f l s q 2
  z1 : loK l s q 3 ≤ r.z
  z2 : r.z ≤ hiK f l s q 3
theorem tw_in {B : Int} {x : Rat} (h : Tw B x) : -(B : Rat) ≤ x ∧ x ≤ (B : Rat) := by
  obtain ⟨_, k, e, h1, h2⟩ := h
  have c1 : -((12 : Rat) * (B : Rat)) ≤ (k : Rat) := by
    have : ((-(12 * B) : Int) : Rat) ≤ (k : Rat) := by exact_mod_cast h1
    simp only [Rat.intCast_neg, Rat.intCast_mul] at this
    exact this
  have c2 : (k : Rat) ≤ (12 : Rat) * (B : Rat) := by
    have : (k : Rat) ≤ ((12 * B : Int) : Rat) := by exact_mod_cast h2
    simp only [Rat.intCast_mul] at this
    exact this
  rw [← e] at c1 c2
  constructor <;> grind
theorem ls_in {f : Int} {x : Rat} (h : Ls f x) : 0 ≤ x ∧ x ≤ ((pw2 f - 1 : Int) : Rat) / (pw2 f : Rat) := by
  obtain ⟨_, k, e, h1, h2⟩ := h
  have hw := pw2_pos f
  have w0 := w_ne f
  have wp : (0 : Rat) < (pw2 f : Rat) := by exact_mod_cast (show (0 : Int) < pw2 f by omega)
  have c1 : (0 : Rat) ≤ (k : Rat) := by exact_mod_cast h1
  have c2 : (k : Rat) ≤ ((pw2 f - 1 : Int) : Rat) := by exact_mod_cast (show k ≤ pw2 f - 1 by omega)
  constructor
  · refine Rat.not_lt.mp fun h => ?_
    have := Rat.mul_lt_mul_of_pos_left h wp
    rw [e] at this
    grind
  · refine Rat.not_lt.mp fun h => ?_
    have := Rat.mul_lt_mul_of_pos_left h wp
    rw [e, Rat.mul_comm, Rat.div_mul_cancel w0] at this
    grind
theorem row_in {f l s q : Int} {r : LRow} (h : RowOk f l s q r) : InK f l s q r :=
  ⟨(tw_in h.l).1, (tw_in h.l).2, (tw_in h.s).1, (tw_in h.s).2, (tw_in h.m).1, (tw_in h.m).2, (ls_in h.z).1, (ls_in h.z).2⟩
section
variable {a b f l s q : Int}
theorem dA_in {r : LRow} (h : InK f l s q r) (k at' : Nat) : dn a b f l s q k at' ≤ dA a b f r k at' ∧ dA a b f r k at' ≤ up a b f l s q k at' := by
  rw [dA_row r k at']
  have h0 := mn_le (A := dA a b f (eK 0) k at') h.l1 h.l2
  have h1 := mn_le (A := dA a b f (eK 1) k at') h.s1 h.s2
  have h2 := mn_le (A := dA a b f (eK 2) k at') h.m1 h.m2
  have h3 := mn_le (A := dA a b f (eK 3) k at') h.z1 h.z2
  unfold dn up dn1 up1
  constructor <;> grind
theorem conv_in (at' : Nat) : ∀ (j : Nat) (rs : List LRow), j ≤ rs.length → (j = rs.length → at' = 0) → (∀ r ∈ rs, InK f l s q r) → sLo a b f l s q at' (j + 1) ≤ conv a b f at' j rs ∧ conv a b f at' j rs ≤ sHi a b f l s q at' (j + 1)
  | j, [], h, h0, _ => by
    have hj : j = 0 := by simpa using h
    subst hj
    have := h0 rfl
    subst this
    simp only [sLo, sHi, dn_00, up_00, conv]
    constructor <;> grind
  | 0, r :: rs, _, _, hr => by
    have := dA_in (a := a) (b := b) (hr r (List.mem_cons_self ..)) 0 at'
    simp only [sLo, sHi, conv]
    constructor <;> grind
  | j + 1, r :: rs, h, h0, hr => by
    have h1 := dA_in (a := a) (b := b) (hr r (List.mem_cons_self ..)) (j + 1) at'
    have h2 := conv_in at' j rs (by simpa using h) (fun e => h0 (by simp [e])) fun x hx => hr x (List.mem_cons_of_mem _ hx)
    simp only [conv]
    simp only [sLo, sHi] at h2 ⊢
    constructor <;> grind
end
end DL

namespace DL
open PySem PySem.Spec PyProof.Rows L2
/-! ### the ends' sizes -/
section
variable {a b f bits l s q : Int}
def un15 (f : Int) : Int := oneU f 15 * pw2 f
theorem un15_pos (f : Int) : 0 < un15 f := Int.mul_pos (one_pos f 15) (by have := pw2_pos f; omega)
theorem un15_bd (h : f ≤ 8) : (un15 f).natAbs < 2 ^ 147 := by
  have hw := pw2_pos f
  have hw2 := pw2_le (f := f) (k := 8) (by omega)
  exact natAbs_mul_lt (k := 138) (l := 9) (one_bd (f := f) (m := 15) h (by decide)) (by omega)
theorem dn1_int (hh : HB a b f bits) (hl : LB l s q) {κ k at' : Nat} (hκ : κ < 4) (hk : k ≤ 15) (h10 : at' < 10) :
    ∃ x y : Int, (un15 f : Rat) * dn1 a b f l s q κ k at' = (x : Rat) ∧ (un15 f : Rat) * up1 a b f l s q κ k at' = (y : Rat) ∧ x.natAbs < 2 ^ 720 ∧ y.natAbs < 2 ^ 720 := by
  have hA : a.natAbs < 2 ^ 13 := by have := hh.a1; have := hh.a2; omega
  have hBb : b.natAbs < 2 ^ 13 := by have := hh.b1; have := hh.b2; omega
  have h1 := pw2_pos f
  have h2 := pw2_le (f := f) (k := 8) (by have := hh.h.f2; omega)
  have := hl.l0; have := hl.l1; have := hl.s0; have := hl.s1; have := hl.q0; have := hl.q1
  have bl := mul_bd (a := l) (b := pw2 f) (A := 1000) (B := 256) (by omega) (by omega) (by omega) (by omega)
  have bs := mul_bd (a := s) (b := pw2 f) (A := 1000) (B := 256) (by omega) (by omega) (by omega) (by omega)
  have bq := mul_bd (a := q) (b := pw2 f) (A := 1000) (B := 256) (by omega) (by omega) (by omega) (by omega)
  have bl' : -l * pw2 f = -(l * pw2 f) := Int.neg_mul ..
  have bs' : -s * pw2 f = -(s * pw2 f) := Int.neg_mul ..
  have bq' : -q * pw2 f = -(q * pw2 f) := Int.neg_mul ..
  obtain ⟨row, v, _, _, _, ev, ev2⟩ := ans_at (a := a) (b := b) (κ := κ) (m := 15) (k := k) hh.h.f2 (by decide) hA hBb (by omega) h10
  obtain ⟨lo, hi, he, b1, b2⟩ : ∃ lo hi : Int, (endsL l s q (pw2 f))[κ]? = some (lo, hi) ∧ lo.natAbs < 2 ^ 20 ∧ hi.natAbs < 2 ^ 20 := by
    match κ, hκ with
    | 0, _ => exact ⟨_, _, rfl, by omega, by omega⟩
    | 1, _ => exact ⟨_, _, rfl, by omega, by omega⟩
    | 2, _ => exact ⟨_, _, rfl, by omega, by omega⟩
    | 3, _ => exact ⟨_, _, rfl, by omega, by omega⟩
  obtain ⟨m0, n0⟩ := kinds_scale (f := f) (l := l) (s := s) (q := q) κ hκ (one_pos f 15) ev he
  have c1 := natAbs_mul_lt ev2 b1
  have c2 := natAbs_mul_lt ev2 b2
  refine ⟨_, _, m0.symm, n0.symm, ?_, ?_⟩
  · split <;> assumption
  · split <;> assumption
theorem add4 {z c : Nat} {x x0 x1 x2 x3 : Int} (h0 : x0.natAbs < z) (h1 : x1.natAbs < z) (h2 : x2.natAbs < z) (h3 : x3.natAbs < z) (h : x.natAbs ≤ c) : (x + (x0 + x1 + x2 + x3)).natAbs ≤ c + 4 * z := by omega
theorem sLo_int (hh : HB a b f bits) (hl : LB l s q) {at' : Nat} (h10 : at' < 10) : ∀ t, t ≤ 16 → ∃ x y : Int, (un15 f : Rat) * sLo a b f l s q at' t = (x : Rat) ∧ (un15 f : Rat) * sHi a b f l s q at' t = (y : Rat) ∧ x.natAbs ≤ t * 2 ^ 722 ∧ y.natAbs ≤ t * 2 ^ 722
  | 0, _ => ⟨0, 0, by simp [sLo], by simp [sHi], by simp, by simp⟩
  | t + 1, h => by
    obtain ⟨x, y, ex, ey, bx, by'⟩ := sLo_int hh hl h10 t (by omega)
    obtain ⟨x0, y0, ex0, ey0, bx0, by0⟩ := dn1_int hh hl (κ := 0) (k := t) (by decide) (by omega) h10
    obtain ⟨x1, y1, ex1, ey1, bx1, by1⟩ := dn1_int hh hl (κ := 1) (k := t) (by decide) (by omega) h10
    obtain ⟨x2, y2, ex2, ey2, bx2, by2⟩ := dn1_int hh hl (κ := 2) (k := t) (by decide) (by omega) h10
    obtain ⟨x3, y3, ex3, ey3, bx3, by3⟩ := dn1_int hh hl (κ := 3) (k := t) (by decide) (by omega) h10
    have e722 : (2 : Nat) ^ 722 = 4 * 2 ^ 720 := by rw [show 722 = 2 + 720 by rfl, Nat.pow_add]
    refine ⟨x + (x0 + x1 + x2 + x3), y + (y0 + y1 + y2 + y3), ?_, ?_, ?_, ?_⟩
    · simp only [sLo, dn, Rat.intCast_add]
      rw [← ex, ← ex0, ← ex1, ← ex2, ← ex3]; grind
    · simp only [sHi, up, Rat.intCast_add]
      rw [← ey, ← ey0, ← ey1, ← ey2, ← ey3]; grind
    · rw [Nat.add_mul, Nat.one_mul, e722]
      rw [e722] at bx
      exact add4 bx0 bx1 bx2 bx3 bx
    · rw [Nat.add_mul, Nat.one_mul, e722]
      rw [e722] at by'
      exact add4 by0 by1 by2 by3 by'
theorem rk_wW {gs : List Int} (hh : HB a b f bits) (hl : LB l s q) (hg : ∀ x ∈ gs, -1000000 ≤ x ∧ x ≤ 1000000) {at' t : Nat} (h10 : at' < 10) (ht : t ≤ 15) : Rk 800 (wLo a b f l s q gs at' t) ∧ Rk 800 (wHi a b f l s q gs at' t) := by
  obtain ⟨x, y, ex, ey, bx, by'⟩ := sLo_int hh hl h10 (t + 1) (by omega)
  have nb := nou_bdW hg at' t
  have h0 := un15_pos f
  have hb := un15_bd (f := f) hh.h.f2
  have hn : (nou gs at' t * un15 f).natAbs < 2 ^ 170 := lt_up (natAbs_mul_lt (k := 23) (by omega) hb) (by decide)
  have sm : ∀ z : Int, z.natAbs ≤ (t + 1) * 2 ^ 722 → (nou gs at' t * un15 f + z).natAbs < 2 ^ 800 := fun z hz => by
    have h1 : z.natAbs < 2 ^ 730 := by
      have e730 : (2 : Nat) ^ 730 = 256 * 2 ^ 722 := by rw [show 730 = 8 + 722 by rfl, Nat.pow_add]
      have p := Nat.two_pow_pos 722
      rw [e730]
      have : (t + 1) * 2 ^ 722 ≤ 16 * 2 ^ 722 := Nat.mul_le_mul_right _ (by omega)
      omega
    exact lt_up (natAbs_add_lt (lt_up hn (by decide)) h1) (by decide)
  constructor
  · refine rk_of h0 (lt_up hb (by decide)) (sm x bx) ?_
    unfold wLo
    rw [Rat.intCast_add, Rat.intCast_mul, ← ex]; grind
  · refine rk_of h0 (lt_up hb (by decide)) (sm y by') ?_
    unfold wHi
    rw [Rat.intCast_add, Rat.intCast_mul, ← ey]; grind
end
/-! ### names -/
def namesC : List CS := [.ret (.lst false [(.con (.str "place")), (.con (.str "pace")), (.con (.str "push")), (.con (.str "n0")), (.con (.str "n1")), (.con (.str "n2")), (.con (.str "n3")), (.con (.str "n4")), (.con (.str "n5")), (.con (.str "n6"))])]
def spNames (ds : List D) (S : DStore) (Q : QE) : Prop := ds = [] ∧ Q (.lst (szN.map D.str)) S
theorem spNames_len : ∀ ds S Q, spNames ds S Q → ds.length = 0 := by rintro _ _ _ ⟨rfl, _⟩; rfl
theorem names_ok {G : Fns} : ∀ ds S Q, spNames ds S Q → wpSs G namesC (startD 0 ds) S { nx := fun _ S' => Q .non S', rt := Q } := by
  rintro ds S Q ⟨rfl, hQ⟩
  unfold namesC
  simp only [DL.wpSs, DL.wpS, DL.wpE, DL.wpEs, newL, CC.d]
  exact hQ
/-- the text of a pair of ends -/
theorem repr_pair {S : DStore} {m : Bool} {Q : QE} {x y : Rat} (hx : Rk 1500 x) (hy : Rk 1500 y) (q : Q (.str (PyData.tuple [frP x, frP y]).shown) S) : biD .repr1 m [.tup [frD x, frD y]] S Q := by
  refine reprW4 (p := .tuple [frP x, frP y]) rfl ?_ q
  have h1 := fr_ok hx
  have h2 := fr_ok hy
  simp only [okW, okWs] at h1 h2 ⊢
  simp only [frP, okW, okWs]
  rw [h1, h2]; rfl
end DL

namespace DL
open PySem PySem.Spec PyProof.Rows L2
/-! ### worst runs -/
def want (A lo hi : Rat) (most : Bool) : Rat := if A = 0 then 0 else if decide (0 < A) = most then hi else lo
theorem want_mx {A lo hi : Rat} (h : lo ≤ hi) : A * want A lo hi true = mx (A * lo) (A * hi) ∧ A * want A lo hi false = mn (A * lo) (A * hi) := by
  unfold want
  by_cases h0 : A = 0
  · subst h0
    rw [if_pos rfl, if_pos rfl]
    unfold mn mx
    simp only [Rat.zero_mul, Rat.mul_zero, ite_self]
    exact ⟨trivial, trivial⟩
  · rw [if_neg h0, if_neg h0]
    by_cases hp : 0 < A
    · have := Rat.mul_le_mul_of_nonneg_left h (Rat.le_of_lt hp)
      simp only [hp, decide_true]
      unfold mn mx
      refine ⟨?_, ?_⟩
      · simp only [if_true]; split <;> grind
      · simp only [Bool.true_eq_false, if_false]; split <;> grind
    · have hn : 0 < -A := by
        have : A < 0 := by rcases Rat.le_total (a := 0) (b := A) with h | h <;> grind
        grind
      have := Rat.mul_le_mul_of_nonneg_left h (Rat.le_of_lt hn)
      simp only [hp, decide_false]
      unfold mn mx
      refine ⟨?_, ?_⟩
      · simp only [Bool.false_eq_true, if_false]; split <;> grind
      · simp only [if_true]; split <;> grind
section
variable (a b f l s q : Int)
def wK (κ k at' : Nat) (most : Bool) : Rat := want (dA a b f (eK κ) k at') (loK l s q κ) (hiK f l s q κ) most
/-- the row that an end wants, so many beats behind -/
def wRow (at' : Nat) (most : Bool) (k : Nat) : LRow := ⟨wK a b f l s q 0 k at' most, wK a b f l s q 1 k at' most, wK a b f l s q 2 k at' most, wK a b f l s q 3 k at' most⟩
def wRun (gs : List Int) (at' t : Nat) (most : Bool) : List LRow := (List.range (gs.length - 1)).map fun j => if j < shN at' t then wRow a b f l s q at' most (t - j) else zr
end
section
variable {a b f l s q : Int}
theorem lo_hi (h0 : 0 ≤ l ∧ 0 ≤ s ∧ 0 ≤ q) (κ : Nat) (hκ : κ < 4) : loK l s q κ ≤ hiK f l s q κ := by
  have d1 : (0 : Rat) ≤ (l : Rat) := by exact_mod_cast h0.1
  have d2 : (0 : Rat) ≤ (s : Rat) := by exact_mod_cast h0.2.1
  have d3 : (0 : Rat) ≤ (q : Rat) := by exact_mod_cast h0.2.2
  match κ, hκ with
  | 0, _ => simp only [loK, hiK]; grind
  | 1, _ => simp only [loK, hiK]; grind
  | 2, _ => simp only [loK, hiK]; grind
  | 3, _ =>
    simp only [loK, hiK]
    have hw := pw2_pos f
    have w0 := w_ne f
    have wp : (0 : Rat) < (pw2 f : Rat) := by exact_mod_cast (show (0 : Int) < pw2 f by omega)
    have w1 : (0 : Rat) ≤ ((pw2 f - 1 : Int) : Rat) := by exact_mod_cast (show (0 : Int) ≤ pw2 f - 1 by omega)
    refine Rat.not_lt.mp fun h => ?_
    have := Rat.mul_lt_mul_of_pos_left h wp
    rw [Rat.mul_comm, Rat.div_mul_cancel w0] at this
    grind
theorem wRow_A (h0 : 0 ≤ l ∧ 0 ≤ s ∧ 0 ≤ q) (k at' : Nat) : dA a b f (wRow a b f l s q at' true k) k at' = up a b f l s q k at' ∧ dA a b f (wRow a b f l s q at' false k) k at' = dn a b f l s q k at' := by
  have m0 := want_mx (A := dA a b f (eK 0) k at') (lo_hi (f := f) h0 0 (by decide))
  have m1 := want_mx (A := dA a b f (eK 1) k at') (lo_hi (f := f) h0 1 (by decide))
  have m2 := want_mx (A := dA a b f (eK 2) k at') (lo_hi (f := f) h0 2 (by decide))
  have m3 := want_mx (A := dA a b f (eK 3) k at') (lo_hi (f := f) h0 3 (by decide))
  rw [dA_row (wRow a b f l s q at' true k), dA_row (wRow a b f l s q at' false k)]
  unfold up dn DL.up1 dn1 wRow wK
  simp only
  constructor
  · rw [← m0.1, ← m1.1, ← m2.1, ← m3.1]; grind
  · rw [← m0.2, ← m1.2, ← m2.2, ← m3.2]; grind
def sMost (at' : Nat) (most : Bool) (t : Nat) : Rat := if most = true then sHi a b f l s q at' t else sLo a b f l s q at' t
/-- a run whose rows are wanted -/
theorem conv_want (h0 : 0 ≤ l ∧ 0 ≤ s ∧ 0 ≤ q) (at' : Nat) (most : Bool) : ∀ (t : Nat) (rs : List LRow), (∀ j, j < t ∨ (j = t ∧ at' ≠ 0) → rs[j]? = some (wRow a b f l s q at' most (t - j))) → (at' = 0 → rs[t]? = some zr ∨ rs[t]? = none) → conv a b f at' t rs = sMost (a := a) (b := b) (f := f) (l := l) (s := s) (q := q) at' most (t + 1)
  | 0, rs, h, hz => by
    have e : sMost (a := a) (b := b) (f := f) (l := l) (s := s) (q := q) at' most (0 + 1) = if most = true then up a b f l s q 0 at' else dn a b f l s q 0 at' := by
      unfold sMost; simp only [sHi, sLo, Rat.zero_add]
    rw [e]
    by_cases ha : at' = 0
    · subst ha
      rw [up_00, dn_00, ite_self]
      rcases hz rfl with hr | hr
      · cases rs with
        | nil => simp at hr
        | cons r rs => simp at hr; subst hr; simp only [conv, dA_zr]
      · cases rs with
        | nil => rfl
        | cons r rs => simp at hr
    · have hr := h 0 (.inr ⟨rfl, ha⟩)
      cases rs with
      | nil => simp at hr
      | cons r rs =>
        simp at hr
        subst hr
        have := wRow_A (a := a) (b := b) (f := f) h0 0 at'
        simp only [conv]
        cases most
        · simp only [Bool.false_eq_true, if_false]; exact this.2
        · simp only [if_true]; exact this.1
  | t + 1, rs, h, hz => by
    have hr := h 0 (.inl (by omega))
    cases rs with
    | nil => simp at hr
    | cons r rs =>
      simp at hr
      have ih := conv_want h0 at' most t rs (fun j hj => by
        have := h (j + 1) (by omega)
        rwa [List.getElem?_cons_succ, show t + 1 - (j + 1) = t - j by omega] at this) (fun ha => by
        have := hz ha
        rwa [List.getElem?_cons_succ] at this)
      have w := wRow_A (a := a) (b := b) (f := f) h0 (t + 1) at'
      simp only [conv, ih, hr]
      unfold sMost
      cases most
      · simp only [Bool.false_eq_true, if_false, sLo]; rw [w.2]; grind
      · simp only [if_true, sHi]; rw [w.1]; grind
theorem wRun_get {gs : List Int} {at' t : Nat} {most : Bool} {j : Nat} (hj : j < gs.length - 1) : (wRun a b f l s q gs at' t most)[j]? = some (if j < shN at' t then wRow a b f l s q at' most (t - j) else zr) := by
  unfold wRun
  rw [List.getElem?_map, List.getElem?_range hj]; rfl
theorem wRun_len {gs : List Int} {at' t : Nat} {most : Bool} : (wRun a b f l s q gs at' t most).length = gs.length - 1 := by unfold wRun; simp
/-- the worst run has just the end -/
theorem conv_wRun (h0 : 0 ≤ l ∧ 0 ≤ s ∧ 0 ≤ q) {gs : List Int} {at' t : Nat} {most : Bool} (h2 : 0 < gs.length) (ht : t < beats gs at') : conv a b f at' t (wRun a b f l s q gs at' t most) = sMost (a := a) (b := b) (f := f) (l := l) (s := s) (q := q) at' most (t + 1) := by
  refine conv_want h0 at' most t _ (fun j hj => ?_) fun ha => ?_
  · have hj1 : j < gs.length - 1 ∧ j < shN at' t := by
      unfold beats at ht
      unfold shN
      rcases hj with hj | ⟨rfl, ha⟩
      · split at ht <;> split <;> omega
      · rw [if_neg ha] at ht ⊢; omega
    rw [wRun_get hj1.1, if_pos hj1.2]
  · by_cases hl : t < gs.length - 1
    · left
      rw [wRun_get hl, if_neg (by unfold shN; rw [if_pos ha]; omega)]
    · right
      rw [List.getElem?_eq_none_iff, wRun_len]; omega
theorem tw_want {B : Int} (h0 : 0 ≤ B) (h1 : B ≤ 1000) (x : Rat) (h : x = 0 ∨ x = (B : Rat) ∨ x = -(B : Rat)) : Tw B x := by
  have e1 : ((1 : Int) : Rat) = 1 := rfl
  have key : ∀ n : Int, -B ≤ n → n ≤ B → Tw B (n : Rat) := fun n a1 a2 => by
    have := tw_div (B := B) (num := n) (den := 1) h1 (by decide) (by decide) (by omega) (by omega)
    rwa [e1, show (n : Rat) / 1 = (n : Rat) by grind] at this
  rcases h with rfl | rfl | rfl
  · have := key 0 (by omega) (by omega); rwa [Rat.intCast_zero] at this
  · exact key B (by omega) (by omega)
  · have := key (-B) (by omega) (by omega); rwa [Rat.intCast_neg] at this
theorem want_or (A lo hi : Rat) (most : Bool) : want A lo hi most = 0 ∨ want A lo hi most = hi ∨ want A lo hi most = lo := by
  unfold want; split
  · exact .inl rfl
  · split
    · exact .inr (.inl rfl)
    · exact .inr (.inr rfl)
theorem wRow_ok (hf0 : 0 ≤ f) (hf : f ≤ 8) (hl : LB l s q) (at' : Nat) (most : Bool) (k : Nat) : RowOk f l s q (wRow a b f l s q at' most k) := by
  have hw := pw2_pos f
  refine ⟨tw_want hl.l0 hl.l1 _ (want_or _ _ _ _), tw_want hl.s0 hl.s1 _ (want_or _ _ _ _), tw_want hl.q0 hl.q1 _ (want_or _ _ _ _), ?_⟩
  have z : Ls f 0 := by
    have := ls_div (f := f) (z := 0) hf (by omega) (by omega)
    rwa [Rat.intCast_zero, show (0 : Rat) / (pw2 f : Rat) = 0 by grind] at this
  rcases want_or (dA a b f (eK 3) k at') (loK l s q 3) (hiK f l s q 3) most with h | h | h
  · show Ls f (want _ _ _ _); rw [h]; exact z
  · show Ls f (want _ _ _ _); rw [h]; exact ls_div hf (by omega) (by omega)
  · show Ls f (want _ _ _ _); rw [h]; exact z
theorem zr_ok (hf : f ≤ 8) (hl : LB l s q) : RowOk f l s q zr := by
  have hw := pw2_pos f
  refine ⟨tw_want hl.l0 hl.l1 _ (.inl rfl), tw_want hl.s0 hl.s1 _ (.inl rfl), tw_want hl.q0 hl.q1 _ (.inl rfl), ?_⟩
  have := ls_div (f := f) (z := 0) hf (by omega) (by omega)
  rwa [Rat.intCast_zero, show (0 : Rat) / (pw2 f : Rat) = 0 by grind] at this
theorem wRun_ok (hf0 : 0 ≤ f) (hf : f ≤ 8) (hl : LB l s q) {gs : List Int} {at' t : Nat} {most : Bool} : ∀ r ∈ wRun a b f l s q gs at' t most, RowOk f l s q r := by
  intro r hr
  unfold wRun at hr
  obtain ⟨j, _, rfl⟩ := List.mem_map.mp hr
  split
  · exact wRow_ok hf0 hf hl _ _ _
  · exact zr_ok hf hl
end
def glossC (jm : Nat) : List CS := [.ret (.call jm [(.bin .Sub false (.bin .LShift false (.con (.int 1)) (.ix (.var 0) (.con (.int 2)))) (.con (.int 1))), (.bin .LShift false (.con (.int 1)) (.ix (.var 0) (.con (.int 2))))])]
def spGLoss (ds : List D) (S : DStore) (Q : QE) : Prop := ∃ a b f bits l s q, ds = [hndD a b f bits] ∧ HOk a b f bits ∧ Q (frD (hiK f l s q 3)) S
theorem spGLoss_len : ∀ ds S Q, spGLoss ds S Q → ds.length = 1 := by rintro _ _ _ ⟨_, _, _, _, _, _, _, rfl, _⟩; rfl
theorem gloss_ok {G : Fns} {jm : Nat} (hm : G.fn jm = spMade) : ∀ ds S Q, spGLoss ds S Q → wpSs G (glossC jm) (startD 1 ds) S { nx := fun _ S' => Q .non S', rt := Q } := by
  rintro ds S Q ⟨a, b, f, bits, l, s, q, rfl, hh, hQ⟩
  have := hh.f1; have := hh.f2
  have h1 := pw2_pos f
  have h2 := pw2_le (f := f) (k := 8) (by omega)
  unfold glossC hndD
  simp_arith only [hm, pw2_one]
  (repeat (refine And.intro (by first | omega | exact DL.mul_small_left (by omega) (by omega) | exact DL.mul_small_right (by omega) (by omega) | exact DL.div_om (by omega) (by omega) (by omega) | exact DL.cpow1 (by omega) (by omega) | exact ⟨by omega, by omega⟩ | exact DL.len_le (by (try simp only [List.length_map, List.length_append, List.length_cons, List.length_nil]); omega) | exact DL.len_lt (by (try simp only [List.length_map, List.length_append, List.length_cons, List.length_nil]); omega) | trivial | decide) ?_))
  refine madeF (k := 20) (by omega) (by omega) (by decide) ?_
  exact hQ
def wantedC : List CS := [.if_ (.ccmp .Eq (.ix (.var 0) (.con (.int 0))) (.con (.int 0))) [.ret (.tup [(.con (.int 0)), (.con (.int 1))])] [],
  .ret (.ite (.ccmp .Eq (.cmp .Gt (.ix (.var 0) (.con (.int 0))) (.con (.int 0))) (.var 3)) (.var 2) (.var 1))]
def spWanted (ds : List D) (S : DStore) (Q : QE) : Prop := ∃ A lo hi most, ds = [frD A, frD lo, frD hi, .bl most] ∧ Q (frD (want A lo hi most)) S
theorem spWanted_len : ∀ ds S Q, spWanted ds S Q → ds.length = 4 := by rintro _ _ _ ⟨_, _, _, _, rfl, _⟩; rfl
theorem num_mul (A : Rat) : ((A.num : Int) : Rat) = A * ((A.den : Int) : Rat) := by
  have := Rat.div_mul_cancel (den_ne A) (a := ((A.num : Int) : Rat))
  rw [rat_self] at this; exact this.symm
theorem num_pos (A : Rat) : (0 < A.num ↔ 0 < A) := by
  have dp : (0 : Rat) < ((A.den : Int) : Rat) := by exact_mod_cast den_pos A
  have e := num_mul A
  constructor
  · intro h
    have h1 : (0 : Rat) < ((A.num : Int) : Rat) := by exact_mod_cast h
    rw [e] at h1
    refine Rat.not_le.mp fun hA => ?_
    have := Rat.mul_le_mul_of_nonneg_left hA (Rat.le_of_lt dp)
    grind
  · intro h
    have := Rat.mul_pos h dp
    rw [← e] at this
    exact_mod_cast this
theorem num_zero (A : Rat) : (A.num = 0 ↔ A = 0) := Rat.num_eq_zero
theorem wanted_ok {G : Fns} : ∀ ds S Q, spWanted ds S Q → wpSs G wantedC (startD 4 ds) S { nx := fun _ S' => Q .non S', rt := Q } := by
  rintro ds S Q ⟨A, lo, hi, most, rfl, hQ⟩
  unfold wantedC
  simp_arith only [x_fr0, num_zero, num_pos]
  unfold want at hQ
  refine if_i (fun h => ?_) fun h => ?_
  · rw [if_pos h] at hQ; exact hQ
  · rw [if_neg h] at hQ
    refine if_i (fun h' => ?_) fun h' => ?_
    · rw [if_pos h'] at hQ; exact hQ
    · rw [if_neg h'] at hQ; exact hQ
def wrunC (jh jg jw : Nat) : List CS := [.asg (.tup [(.name 9), (.name 10)]) (.call jh [(.var 0), (.var 2), (.var 3), (.var 4)]),
  .asg (.name 6) (.bin .Add false (.lc false (.tup [(.tup [(.neg (.var 11)), (.con (.int 1))]), (.tup [(.var 11), (.con (.int 1))])]) (.name 11) (.seq (.var 1)) [] [11]) (.lst false [(.tup [(.tup [(.con (.int 0)), (.con (.int 1))]), (.call jg [(.var 0)])])])),
  .asg (.name 7) (.lst true []),
  .for_ (.name 8) (.seq (.var 10)) [.append (.var 7) (.bi .tuple1 false [(.lc false (.call jw [(.var 12), (.var 13), (.var 14), (.var 5)]) (.tup [(.name 12), (.tup [(.name 13), (.name 14)])]) (.zip2 (.var 8) (.var 6)) [] [12, 13, 14])])],
  .ret (.bi .tuple1 false [(.bin .Add false (.var 7) (.bin .Mult false (.lst false [(.bin .Mult false (.tup [(.tup [(.con (.int 0)), (.con (.int 1))])]) (.glo 0))]) (.bin .Sub false (.bin .Sub false (.bi .len false [(.var 2)]) (.con (.int 1))) (.bi .len false [(.var 10)]))))])]
def spWRun (ds : List D) (S : DStore) (Q : QE) : Prop := ∃ a b f bits l s q gs at', ∃ (t : Nat) (most : Bool), ds = [hndD a b f bits, letsD l s q, .tup (gs.map D.int), .str (nmS at'), .int t, .bl most] ∧ EB a b f bits l s q gs at' ∧ t < beats gs at' ∧
  ∀ S', Kp S S' → Q (.tup ((wRun a b f l s q gs at' t most).map LRow.D)) S'
theorem spWRun_len : ∀ ds S Q, spWRun ds S Q → ds.length = 6 := by rintro _ _ _ ⟨_, _, _, _, _, _, _, _, _, _, _, rfl, _⟩; rfl
theorem flat_one {α : Type} (x : α) (n : Nat) : (List.replicate n [x]).flatten = List.replicate n x := flat_rep x n
theorem wrun_ok {G : Fns} {jh jg jw : Nat} (hh : G.fn jh = spShares) (hg : G.fn jg = spGLoss) (hw : G.fn jw = spWanted) (h4 : G.gl 0 = .int 4) : ∀ ds S Q, spWRun ds S Q → wpSs G (wrunC jh jg jw) (startD 15 ds) S { nx := fun _ S' => Q .non S', rt := Q } := by
  rintro ds S Q ⟨a, b, f, bits, l, s, q, gs, at', t, most, rfl, E, ht, hQ⟩
  have h2g := E.two; have h16 := E.most; have h10 := E.a10
  have hsh : shN at' t ≤ gs.length - 1 := by unfold shN; unfold beats at ht; split <;> split at ht <;> omega
  unfold wrunC
  refine ss_split 3 (fun ρ S' => ∃ (p : Nat) (r9 : Option D), ρ = [some (hndD a b f bits), some (letsD l s q), some (.tup (gs.map D.int)), some (.str (nmS at')), some (.int t), some (.bl most), some (.lst [.tup [frD (loK l s q 0), frD (hiK f l s q 0)], .tup [frD (loK l s q 1), frD (hiK f l s q 1)], .tup [frD (loK l s q 2), frD (hiK f l s q 2)], .tup [frD (loK l s q 3), frD (hiK f l s q 3)]]), some (.ref p), none, r9, some (.tup ((List.range (shN at' t)).map fun j => shR a b f at' (t - j))), none, none, none, none] ∧ Kp S S' ∧ S.length ≤ p ∧ S'[p]? = some (.lst [])) (fun N hN => ?_) ?_
  · simp_arith only [hh]
    refine ⟨a, b, f, bits, l, s, q, gs, at', t, rfl, E, ht, fun S1 k1 => ?_⟩
    unfold sharesD letsD
    (try simp_arith only [])
    refine ⟨by trivial, gather_run (by show 3 ≤ sizeLine; decide) ?_⟩
    simp only [gW, DL.lcTurn]
    refine ⟨by simp, ?_⟩
    (try simp_arith only [hg])
    refine ⟨by simp, by simp, by simp, ?_⟩
    refine ⟨a, b, f, bits, l, s, q, rfl, E.h.h, ?_⟩
    (try simp_arith only [])
    refine ⟨by decide, ?_⟩
    have kp : Kp S1 (S1 ++ [Cell.lst []]) := fun j c hj => by rw [List.getElem?_append_left (List.getElem?_eq_some_iff.mp hj).1]; exact hj
    exact hN _ _ ⟨S1.length, _, rfl, k1.trans kp, k1.len, by simp⟩
  rintro ρ S1 ⟨p, r9, rfl, hK, hSp, hp⟩
  refine ss_split 1 (fun ρ S' => ∃ (r8 r9 : Option D), ρ = [some (hndD a b f bits), some (letsD l s q), some (.tup (gs.map D.int)), some (.str (nmS at')), some (.int t), some (.bl most), some (.lst [.tup [frD (loK l s q 0), frD (hiK f l s q 0)], .tup [frD (loK l s q 1), frD (hiK f l s q 1)], .tup [frD (loK l s q 2), frD (hiK f l s q 2)], .tup [frD (loK l s q 3), frD (hiK f l s q 3)]]), some (.ref p), r8, r9, some (.tup ((List.range (shN at' t)).map fun j => shR a b f at' (t - j))), none, none, none, none] ∧ Kp S S' ∧ S'[p]? = some (.lst ((List.range (shN at' t)).map fun j => (wRow a b f l s q at' most (t - j)).D))) (fun N hN => ?_) ?_
  · (try simp_arith only [])
    refine walk_list (fun i ρ S' => ∃ (r8 r9 : Option D), ρ = [some (hndD a b f bits), some (letsD l s q), some (.tup (gs.map D.int)), some (.str (nmS at')), some (.int t), some (.bl most), some (.lst [.tup [frD (loK l s q 0), frD (hiK f l s q 0)], .tup [frD (loK l s q 1), frD (hiK f l s q 1)], .tup [frD (loK l s q 2), frD (hiK f l s q 2)], .tup [frD (loK l s q 3), frD (hiK f l s q 3)]]), some (.ref p), r8, r9, some (.tup ((List.range (shN at' t)).map fun j => shR a b f at' (t - j))), none, none, none, none] ∧ Kp S S' ∧ S'[p]? = some (.lst ((List.range i).map fun j => (wRow a b f l s q at' most (t - j)).D)))
      ⟨_, _, rfl, hK, hp⟩ (fun _ _ _ _ => trivial) (fun i x ρ S2 hx hP => ?_) (fun ρ S2 hP => ?_)
    · obtain ⟨r8, r9, rfl, hK, hp⟩ := hP
      have hi : i < shN at' t := by have := (List.getElem?_eq_some_iff.mp hx).1; simpa using this
      rw [List.getElem?_map, List.getElem?_range hi] at hx
      cases hx
      unfold DL.forTurn shR
      (try simp_arith only [])
      have ez : ∀ y0 y1 y2 y3 z0 z1 z2 z3 : D, zipD [y0, y1, y2, y3] [z0, z1, z2, z3] = [.tup [y0, z0], .tup [y1, z1], .tup [y2, z2], .tup [y3, z3]] := fun _ _ _ _ _ _ _ _ => rfl
      rw [ez]
      refine ⟨lat hp, gather_run (by show 4 ≤ sizeLine; decide) ?_⟩
      simp only [gW, DL.lcTurn]
      refine ⟨by simp, ?_⟩
      (try simp_arith only [hw])
      refine ⟨by trivial, by trivial, _, _, _, _, rfl, by simp, ?_⟩
      (try simp_arith only [hw])
      refine ⟨by trivial, by trivial, _, _, _, _, rfl, by simp, ?_⟩
      (try simp_arith only [hw])
      refine ⟨by trivial, by trivial, _, _, _, _, rfl, by simp, ?_⟩
      (try simp_arith only [hw])
      refine ⟨by trivial, by trivial, _, _, _, _, rfl, by simp, ?_⟩
      (try simp_arith only [])
      refine ⟨_, hp, len_lt (by rw [List.length_map, List.length_range]; omega), _, _, rfl, ?_, ?_⟩
      · intro j c hj
        have := (List.getElem?_eq_some_iff.mp hj).1
        rw [List.getElem?_set_ne (by omega)]; exact hK j c hj
      · rw [set_get hp, List.range_succ, List.map_append]; rfl
    · obtain ⟨r8, r9, rfl, hK, hp⟩ := hP
      rw [List.length_map, List.length_range] at hp
      simp only [s_nilA]
      exact hN _ _ ⟨_, _, rfl, hK, hp⟩
  rintro ρ S2 ⟨r8, r9, rfl, hK, hp⟩
  (try simp_arith only [h4, List.length_map, List.length_range])
  refine ⟨by simp, by decide, by decide, by decide, ?_⟩
  have e4 : (List.replicate (4 : Int).toNat [D.tup [.int 0, .int 1]]).flatten = [.tup [.int 0, .int 1], .tup [.int 0, .int 1], .tup [.int 0, .int 1], .tup [.int 0, .int 1]] := rfl
  rw [e4]
  generalize hz : ((gs.length : Int) - 1 - (shN at' t : Nat)) = z
  have hz1 : z.toNat = gs.length - 1 - shN at' t := by omega
  refine ⟨by omega, by omega, len_le (by omega), ?_⟩
  refine o_addRL hp (len_le (by rw [flat_one]; simp only [List.length_map, List.length_range, List.length_replicate]; omega)) ?_
  (try simp_arith only [])
  have fin : ((List.range (shN at' t)).map fun j => (wRow a b f l s q at' most (t - j)).D) ++ (List.replicate z.toNat [D.tup [.tup [.int 0, .int 1], .tup [.int 0, .int 1], .tup [.int 0, .int 1], .tup [.int 0, .int 1]]]).flatten = (wRun a b f l s q gs at' t most).map LRow.D := by
    rw [flat_one]
    apply List.ext_getElem?
    intro j
    by_cases h1 : j < shN at' t
    · rw [List.getElem?_append_left (by simpa using h1), List.getElem?_map, List.getElem?_range h1, List.getElem?_map, wRun_get (by omega), if_pos h1]; rfl
    · by_cases h2 : j < gs.length - 1
      · rw [List.getElem?_append_right (by simp; omega), List.getElem?_map, wRun_get h2, if_neg h1, List.getElem?_replicate_of_lt (by simp; omega)]; rfl
      · rw [List.getElem?_eq_none_iff.mpr (by simp; omega), List.getElem?_eq_none_iff.mpr (by rw [List.length_map, wRun_len]; omega)]
  rw [fin]
  exact hQ S2 hK
end DL

namespace DL
open PySem PySem.Spec PyProof.Rows L2
/-! ### wheels of whole numbers -/
def leastC : List CS := [.par2 2 3 (.bi .abs false [(.var 0)]) (.bi .abs false [(.var 1)]),
  .while_ (.ccmp .Gt (.var 3) (.con (.int 0))) [.par2 2 3 (.var 3) (.bin .Mod false (.var 2) (.var 3))],
  .ret (.tup [(.bin .FloorDiv false (.var 0) (.var 2)), (.bin .FloorDiv false (.var 1) (.var 2))])]
theorem gcd_abs (a b : Int) : Int.gcd (if a < 0 then -a else a) (if b < 0 then -b else b) = Int.gcd a b := by
  have h1 : ((if a < 0 then -a else a) : Int) = (a.natAbs : Int) := by split <;> omega
  have h2 : ((if b < 0 then -b else b) : Int) = (b.natAbs : Int) := by split <;> omega
  rw [h1, h2]; simp [Int.gcd]
theorem least_ok {G : Fns} : ∀ ds S Q, spMade ds S Q → wpSs G leastC (startD 4 ds) S { nx := fun _ S' => Q .non S', rt := Q } := by
  rintro ds S Q ⟨n, d, rfl, h0, hb, hQ⟩
  unfold leastC
  simp_arith only []
  have g0 := gcd_abs n d
  have ha : (0 : Int) ≤ (if n < 0 then -n else n) := by split <;> omega
  have hd0 : (0 : Int) ≤ (if d < 0 then -d else d) := by split <;> omega
  generalize (if n < 0 then -n else n) = na at *
  generalize (if d < 0 then -d else d) = da at *
  refine ⟨fun k ρ S' => S' = S ∧ ∃ x y : Int, ρ = [some (.int n), some (.int d), some (.int x), some (.int y)] ∧ k = y.natAbs ∧ 0 ≤ x ∧ 0 ≤ y ∧ Int.gcd x y = Int.gcd n d, ⟨da.natAbs, rfl, na, da, rfl, rfl, ha, hd0, g0⟩, ?_⟩
  rintro k ρ S' ⟨rfl, x, y, rfl, rfl, hx, hy0, hg⟩
  unfold whileTest DL.whileTurn
  simp_arith only []
  refine if_i (fun hy => ?_) fun hy => ?_
  · refine ⟨by omega, _, fmod_abs_lt (show y ≠ 0 by omega), by trivial, y, x.fmod y, rfl, rfl, hy0, (fmod_pos hy).1, ?_⟩
    rw [gcd_fmod]; exact hg
  · have e : y = 0 := by omega
    subst e
    rw [Int.gcd_zero_right] at hg
    have hp := gcd_pos' (n := n) h0
    have hl := gcd_le' (n := n) h0
    have ex : x = (Int.gcd n d : Nat) := by rw [← hg]; omega
    rw [ex]
    have hd : DivOk ((Int.gcd n d : Nat) : Int) := div_ok8 (by omega) (Int.lt_of_le_of_lt hl hb)
    (try simp_arith only [])
    refine ⟨hd, hd, ?_⟩
    rw [fdiv_e (by omega), fdiv_e (by omega)]
    exact hQ
def gain2C (jt jp : Nat) : List CS := [.asg (.name 1) (.call jp [(.var 0), (.lst false [(.con (.int 1)), (.con (.int 2)), (.con (.int 2)), (.con (.int 3)), (.con (.int 4)), (.con (.int 8)), (.con (.int 0))])]),
  .asg (.name 2) (.bin .LShift false (.con (.int 1)) (.var 1)),
  .if_ (.ccmp .Eq (.call jt [(.var 0), (.con (.int 5))]) (.con (.int 0))) [.ret (.tup [(.bin .Sub false (.call jt [(.var 0), (.con (.int 9))]) (.con (.int 4))), (.bin .Sub false (.call jt [(.var 0), (.con (.int 9))]) (.con (.int 4))), (.bin .Add false (.con (.int 2)) (.call jt [(.var 0), (.con (.int 7))])), (.bin .Add false (.con (.int 4)) (.call jt [(.var 0), (.con (.int 37))]))])] [],
  .asg (.name 3) (.bin .Add false (.con (.int 1)) (.call jt [(.var 0), (.bi .max2 false [(.con (.int 1)), (.bin .FloorDiv false (.var 2) (.con (.int 2)))])])),
  .ret (.tup [(.var 3), (.bin .Add false (.bin .FloorDiv false (.var 2) (.con (.int 2))) (.call jt [(.var 0), (.bin .Add false (.bin .FloorDiv false (.var 2) (.con (.int 2))) (.con (.int 1)))])), (.var 1), (.bin .Add false (.call jp [(.var 0), (.lst false [(.con (.int 10)), (.con (.int 12)), (.con (.int 16)), (.con (.int 24)), (.con (.int 32))])]) (.var 1))])]
theorem gain2_ok {G : Fns} {jt jp : Nat} (ht : G.fn jt = spTake) (hp : G.fn jp = spPick) : ∀ ds S Q, spGain ds S Q → wpSs G (gain2C jt jp) (startD 4 ds) S { nx := fun _ S' => Q .non S', rt := Q } := by
  rintro ds S Q ⟨n, T, rfl, hP, hT, hQ⟩
  have hB : Fr n S S := .refl
  unfold gain2C
  simp_arith only [hp]
  refine DL.pickI (lo := 0) (hi := 8) hP (by omega) (by simp only [DL.allI, and_true]; omega) fun f S _ _ hP hF _ => ?_; replace hB := hB.trans hF; clear hF
  have h1 := pw2_pos f
  have h2 := pw2_le (f := f) (k := 8) (by omega)
  (try simp_arith only [ht, pw2_one])
  (repeat (refine And.intro (by first | omega | exact DL.mul_small_left (by omega) (by omega) | exact DL.mul_small_right (by omega) (by omega) | exact DL.div_om (by omega) (by omega) (by omega) | exact DL.cpow1 (by omega) (by omega) | exact ⟨by omega, by omega⟩ | exact DL.len_le (by (try simp only [List.length_map, List.length_append, List.length_cons, List.length_nil]); omega) | exact DL.len_lt (by (try simp only [List.length_map, List.length_append, List.length_cons, List.length_nil]); omega) | trivial | decide) ?_))
  refine DL.takeP hP (by omega) (by omega) (by omega) fun v1 S _ _ hP hF _ => ?_; replace hB := hB.trans hF; clear hF
  (try simp_arith only [])
  refine if_i (fun _ => ?_) fun _ => ?_
  · (try simp_arith only [ht])
    refine DL.takeP hP (by omega) (by omega) (by omega) fun x1 S _ _ hP hF _ => ?_; replace hB := hB.trans hF; clear hF
    (try simp_arith only [ht])
    refine DL.takeP hP (by omega) (by omega) (by omega) fun x2 S _ _ hP hF _ => ?_; replace hB := hB.trans hF; clear hF
    (try simp_arith only [ht])
    refine DL.takeP hP (by omega) (by omega) (by omega) fun x3 S _ _ hP hF _ => ?_; replace hB := hB.trans hF; clear hF
    (try simp_arith only [ht])
    refine DL.takeP hP (by omega) (by omega) (by omega) fun x4 S _ _ hP hF _ => ?_; replace hB := hB.trans hF; clear hF
    (try simp_arith only [])
    exact hQ _ _ _ _ _ ⟨⟨by omega, by omega, by omega, by omega, by omega, by omega, by omega, by omega⟩, by omega, by omega, by omega, by omega⟩ (hP.mono (by omega)) hB
  · (try simp_arith only [ht])
    rw [fdiv_e (by decide)]
    have hm : 0 < (if pw2 f / 2 > 1 then pw2 f / 2 else 1) ∧ (if pw2 f / 2 > 1 then pw2 f / 2 else 1) ≤ 128 := by split <;> omega
    (repeat (refine And.intro (by first | omega | exact DL.mul_small_left (by omega) (by omega) | exact DL.mul_small_right (by omega) (by omega) | exact DL.div_om (by omega) (by omega) (by omega) | exact DL.cpow1 (by omega) (by omega) | exact ⟨by omega, by omega⟩ | exact DL.len_le (by (try simp only [List.length_map, List.length_append, List.length_cons, List.length_nil]); omega) | exact DL.len_lt (by (try simp only [List.length_map, List.length_append, List.length_cons, List.length_nil]); omega) | trivial | decide) ?_))
    refine DL.takeP hP (by omega) (by omega) (by omega) fun x1 S _ _ hP hF _ => ?_; replace hB := hB.trans hF; clear hF
    (try simp_arith only [ht])
    (repeat (refine And.intro (by first | omega | exact DL.mul_small_left (by omega) (by omega) | exact DL.mul_small_right (by omega) (by omega) | exact DL.div_om (by omega) (by omega) (by omega) | exact DL.cpow1 (by omega) (by omega) | exact ⟨by omega, by omega⟩ | exact DL.len_le (by (try simp only [List.length_map, List.length_append, List.length_cons, List.length_nil]); omega) | exact DL.len_lt (by (try simp only [List.length_map, List.length_append, List.length_cons, List.length_nil]); omega) | trivial | decide) ?_))
    refine DL.takeP hP (by omega) (by omega) (by omega) fun x2 S _ _ hP hF _ => ?_; replace hB := hB.trans hF; clear hF
    (try simp_arith only [hp])
    refine DL.pickI (lo := 10) (hi := 32) hP (by omega) (by simp only [DL.allI, and_true]; omega) fun bt S _ _ hP hF _ => ?_; replace hB := hB.trans hF; clear hF
    (try simp_arith only [])
    exact hQ _ _ _ _ _ ⟨⟨by omega, by omega, by omega, by omega, by omega, by omega, by omega, by omega⟩, by omega, by omega, by omega, by omega⟩ (hP.mono (by omega)) hB
def wishes2C (jt jp : Nat) : List CS := [.asg (.name 2) (.lst true [(.bin .Sub false (.call jt [(.var 0), (.con (.int 2001))]) (.con (.int 1000)))]),
  .asg (.name 3) (.call jp [(.var 0), (.lst false [(.con (.int 0)), (.con (.int 1)), (.con (.int 3)), (.con (.int 12))])]),
  .for_ (.name 4) (.range1 (.var 1)) [.append (.var 2) (.bin .Sub false (.bin .Add false (.ix (.var 2) (.neg (.con (.int 1)))) (.call jt [(.var 0), (.bin .Add false (.bin .Mult false (.con (.int 2)) (.var 3)) (.con (.int 1)))])) (.var 3))],
  .ret (.bi .tuple1 false [(.var 2)])]
def spWishes2 (ds : List D) (S : DStore) (Q : QE) : Prop := ∃ n T many, ds = [.ref n, .int many] ∧ Pot n T S ∧ T < 10000000 ∧ 0 < many ∧ many ≤ 30 ∧ ∀ (gs : List Int) S', (gs.length : Int) = many + 1 → (∀ x ∈ gs, -1400 ≤ x ∧ x ≤ 1400) → Pot n (T + 40) S' → Fr n S S' → Q (.tup (gs.map D.int)) S'
theorem spWishes2_len : ∀ ds S Q, spWishes2 ds S Q → ds.length = 2 := by rintro _ _ _ ⟨_, _, _, rfl, _⟩; rfl
theorem wishes2_ok {G : Fns} {jt jp : Nat} (ht : G.fn jt = spTake) (hp : G.fn jp = spPick) : ∀ ds S Q, spWishes2 ds S Q → wpSs G (wishes2C jt jp) (startD 5 ds) S { nx := fun _ S' => Q .non S', rt := Q } := by
  rintro ds S0 Q ⟨n, T, many, rfl, hP, hT, h0, h30, hQ⟩
  have hB : Fr n S0 S0 := .refl
  unfold wishes2C
  simp_arith only [ht]
  refine DL.takeP hP (by omega) (by omega) (by omega) fun v1 S _ _ hP hF _ => ?_; replace hB := hB.trans hF; clear hF
  (try simp_arith only [hp])
  have hqn : S.length ≠ n := by have := hP.lt; omega
  have hq : (S ++ [Cell.lst [.int (v1 - 1000)]])[S.length]? = some (.lst ([v1 - 1000].map D.int)) := by simp
  have hSq : S0.length ≤ S.length := hB.len
  replace hB := hB.trans (Fr.app (cs := [Cell.lst [.int (v1 - 1000)]]))
  replace hP := hP.app (cs := [Cell.lst [.int (v1 - 1000)]])
  generalize S.length = q at *
  generalize S ++ [Cell.lst [.int (v1 - 1000)]] = S at *
  refine DL.pickI (lo := 0) (hi := 12) hP (by omega) (by simp only [DL.allI, and_true]; omega) fun far S _ _ hP hF _ => ?_; replace hB := hB.trans hF; replace hq := hF.get hqn hq; clear hF
  (try simp_arith only [])
  (repeat (refine And.intro (by first | omega | exact DL.mul_small_left (by omega) (by omega) | exact DL.mul_small_right (by omega) (by omega) | exact DL.div_om (by omega) (by omega) (by omega) | exact DL.cpow1 (by omega) (by omega) | exact ⟨by omega, by omega⟩ | exact DL.len_le (by (try simp only [List.length_map, List.length_append, List.length_cons, List.length_nil]); omega) | exact DL.len_lt (by (try simp only [List.length_map, List.length_append, List.length_cons, List.length_nil]); omega) | trivial | decide) ?_))
  refine walk_range (fun i ρ S' => (i : Int) ≤ many ∧ ∃ (gs : List Int) (r4 : Option D), ρ = [some (.ref n), some (.int many), some (.ref q), some (.int far), r4] ∧ Pot n (T + 2 + i) S' ∧ Fr n S0 S' ∧ S'[q]? = some (.lst (gs.map D.int)) ∧ gs.length = i + 1 ∧ ∀ x ∈ gs, -(1000 + 12 * (i : Int)) ≤ x ∧ x ≤ 1000 + 12 * (i : Int))
    ⟨by omega, [v1 - 1000], none, rfl, hP.mono (by omega), hB, hq, rfl, fun x hx => by rw [List.mem_singleton.mp hx]; omega⟩ (fun _ _ _ _ => trivial) (fun i ρ S' hi hp => ?_) (fun ρ S' hp => ?_)
  · obtain ⟨hi9, gs, r4, rfl, hP, hB, hq, hl, hg⟩ := hp
    have em := at_m1 (gs := gs) (by omega)
    have bl := gI_bd (B := 1000 + 12 * (i : Int)) (by omega) hg ((gs.length : Int) - 1)
    unfold DL.forTurn
    (try simp_arith only [hq, em, ht])
    refine ⟨lat hq, ?_⟩
    (repeat (refine And.intro (by first | omega | exact DL.mul_small_left (by omega) (by omega) | exact DL.mul_small_right (by omega) (by omega) | exact DL.div_om (by omega) (by omega) (by omega) | exact DL.cpow1 (by omega) (by omega) | exact ⟨by omega, by omega⟩ | exact DL.len_le (by (try simp only [List.length_map, List.length_append, List.length_cons, List.length_nil]); omega) | exact DL.len_lt (by (try simp only [List.length_map, List.length_append, List.length_cons, List.length_nil]); omega) | trivial | decide) ?_))
    refine DL.takeP hP (by omega) (by omega) (by omega) fun v3 S _ _ hP hF _ => ?_; replace hB := hB.trans hF; replace hq := hF.get hqn hq; clear hF
    (try simp_arith only [])
    refine ⟨_, hq, len_lt (by rw [List.length_map]; omega), by omega, gs ++ [gI gs (gs.length - 1) + v3 - far], _, rfl, (hP.set hqn).mono (by omega), hB.set hSq, ?_, by simp [hl], ?_⟩
    · rw [set_get hq, List.map_append]; rfl
    · intro x hx
      rcases List.mem_append.mp hx with hx | hx
      · have := hg x hx; omega
      · rw [List.mem_singleton.mp hx]; omega
  · obtain ⟨hi9, gs, r4, rfl, hP, hB, hq, hl, hg⟩ := hp
    (try simp_arith only [hq])
    exact hQ gs S' (by omega) (fun x hx => by have := hg x hx; omega) (hP.mono (by omega)) hB
/-- the paces of some wishes, a nought at both ends -/
def paceL (gs : List Int) : List Int := 0 :: ((gs.zip (gs.drop 1)).map fun p => p.2 - p.1) ++ [0]
theorem paceL_len {gs : List Int} (h : 0 < gs.length) : (paceL gs).length = gs.length + 1 := by simp [paceL]; omega
theorem paceL_get {gs : List Int} {t : Int} (h0 : 0 ≤ t) (h1 : t < gs.length) : gI (paceL gs) t = pcW gs t ∧ gI (paceL gs) (t + 1) = ltW gs t := by
  have zl : (gs.zip (gs.drop 1)).length = gs.length - 1 := by rw [List.length_zip, List.length_drop]; omega
  have key : ∀ i : Nat, i + 1 < gs.length → gI (paceL gs) ((i : Int) + 1) = gI gs ((i : Int) + 1) - gI gs i := fun i hi => by
    unfold gI paceL
    rw [show ((i : Int) + 1).toNat = i + 1 by omega, Int.toNat_natCast, List.cons_append, List.getD_cons_succ, List.getD_eq_getElem?_getD, List.getElem?_append_left (by rw [List.length_map, zl]; omega), List.getElem?_map]
    have e : (gs.zip (gs.drop 1))[i]? = some (gs.getD i 0, gs.getD (i + 1) 0) := by
      rw [List.getElem?_zip_eq_some]
      refine ⟨?_, ?_⟩
      · rw [List.getD_eq_getElem?_getD, List.getElem?_eq_getElem (by omega)]; rfl
      · rw [List.getElem?_drop, Nat.add_comm 1 i, List.getElem?_eq_getElem hi]; simp [List.getD_eq_getElem?_getD, List.getElem?_eq_getElem hi]
    rw [e]; rfl
  obtain ⟨t, rfl⟩ := Int.eq_ofNat_of_zero_le h0
  constructor
  · unfold pcW
    by_cases hp : 0 < t
    · rw [if_pos (by omega)]
      have := key (t - 1) (by omega)
      rw [show ((t - 1 : Nat) : Int) + 1 = (t : Int) by omega, show ((t - 1 : Nat) : Int) = (t : Int) - 1 by omega] at this
      exact this
    · have : t = 0 := by omega
      subst this; rfl
  · unfold ltW
    by_cases hp : t + 1 < gs.length
    · rw [if_pos (by omega)]; exact key t hp
    · rw [if_neg (by omega)]
      unfold gI paceL
      rw [show ((t : Int) + 1).toNat = t + 1 by omega, List.cons_append, List.getD_cons_succ, List.getD_eq_getElem?_getD, List.getElem?_append_right (by rw [List.length_map, zl]; omega), List.length_map, zl, show t - (gs.length - 1) = 0 by omega]; rfl
def wish2C : List CS := [.asg (.name 2) (.bin .Add false (.bin .Add false (.lst false [(.con (.int 0))]) (.lc false (.bin .Sub false (.var 4) (.var 3)) (.tup [(.name 3), (.name 4)]) (.zip2 (.var 0) (.sl false (.var 0) (.yes (.con (.int 1))) .no)) [] [3, 4])) (.lst false [(.con (.int 0))])),
  .ret (.tup [(.ix (.var 0) (.var 1)), (.ix (.var 2) (.var 1)), (.bin .Sub false (.ix (.var 2) (.bin .Add false (.var 1) (.con (.int 1)))) (.ix (.var 2) (.var 1)))])]
theorem wish2_ok {G : Fns} : ∀ ds S Q, spW ds S Q → wpSs G wish2C (startD 5 ds) S { nx := fun _ S' => Q .non S', rt := Q } := by
  rintro ds S Q ⟨gs, t, rfl, h0, h1, hl, hQ⟩
  have e0 := at_g h0 h1
  have pl := paceL_len (gs := gs) (by omega)
  have p0 := at_g (gs := paceL gs) h0 (by omega)
  have p1 := at_g (gs := paceL gs) (i := t + 1) (by omega) (by omega)
  obtain ⟨q0, q1⟩ := paceL_get h0 h1
  rw [q0] at p0
  rw [q1] at p1
  have c1 : cutD (gs.map D.int) (some 1) none = (gs.drop 1).map D.int := by rw [show (1 : Int) = ((1 : Nat) : Int) from rfl, cut_from, List.map_drop]
  have ez : zipD (gs.map D.int) ((gs.drop 1).map D.int) = (gs.zip (gs.drop 1)).map fun p => .tup [.int p.1, .int p.2] := by
    unfold zipD; rw [List.zip_map, List.map_map]; rfl
  unfold wish2C
  simp_arith only [x_sl, c1, ez]
  refine gather_map (fun p : Int × Int => D.tup [.int p.1, .int p.2]) (fun p => .int (p.2 - p.1)) (len_le (by simp; omega)) trivial (fun x hx N hN => ?_) ?_
  · unfold lcTurn
    (try simp_arith only [])
    exact ⟨by trivial, hN⟩
  (try simp_arith only [])
  have el : D.int 0 :: (((gs.zip (gs.drop 1)).map fun p => D.int (p.2 - p.1)) ++ [D.int 0]) = (paceL gs).map D.int := by
    unfold paceL
    rw [List.cons_append, List.map_cons, List.map_append, List.map_map]; rfl
  refine ⟨len_le (by simp; omega), len_le (by simp; omega), ?_⟩
  (try simp_arith only [el, e0, p0, p1])
  exact hQ
/-! ### a world -/
structure WIn where
  l : Int
  s : Int
  m : Int
def WIn.D (r : WIn) : DL.D := .tup [.int r.l, .int r.s, .int r.m]
section
variable (a b f : Int) (gs : List Int)
def wBoth (t : Nat) (s : ISt) (r : WIn) : Int := a * (s.x + r.m - gI gs t) + b * (s.x + r.m - s.y0 - pcW gs t)
def wPush (t : Nat) (s : ISt) (r : WIn) : Int := ltW gs t - pcW gs t - wBoth a b gs t s r / pw2 f
def wLoss (t : Nat) (s : ISt) (r : WIn) : Int := wBoth a b gs t s r - wBoth a b gs t s r / pw2 f * pw2 f
def wNext (t : Nat) (s : ISt) (r : WIn) : ISt := ⟨s.x + (s.v + wPush a b f gs t s r + r.l) + r.s, s.v + wPush a b f gs t s r + r.l, s.x + r.m⟩
def wTold (t : Nat) (s : ISt) (r : WIn) : List Int := [s.x, s.v, s.x + r.m, wPush a b f gs t s r, wLoss a b f gs t s r, wBoth a b gs t s r]
def wTolds : Nat → ISt → List WIn → List (List Int)
  | _, _, [] => []
  | t, s, r :: rs => wTold a b f gs t s r :: wTolds (t + 1) (wNext a b f gs t s r) rs
def wEnd : Nat → ISt → List WIn → ISt
  | _, s, [] => s
  | t, s, r :: rs => wEnd (t + 1) (wNext a b f gs t s r) rs
/-- the rows of a run that a wheel of whole numbers is -/
def wRows : Nat → ISt → List WIn → List LRow
  | _, _, [] => []
  | t, s, r :: rs => ⟨(r.l : Rat), (r.s : Rat), (r.m : Rat), (wLoss a b f gs t s r : Rat) / (pw2 f : Rat)⟩ :: wRows (t + 1) (wNext a b f gs t s r) rs
end
theorem wTolds_len {a b f : Int} {gs : List Int} : ∀ (l : List WIn) t s, (wTolds a b f gs t s l).length = l.length := fun l => by
  induction l with
  | nil => intro t s; rfl
  | cons x l ih => intro t s; simp [wTolds, ih]
theorem wRows_len {a b f : Int} {gs : List Int} : ∀ (l : List WIn) t s, (wRows a b f gs t s l).length = l.length := fun l => by
  induction l with
  | nil => intro t s; rfl
  | cons x l ih => intro t s; simp [wRows, ih]
theorem fdiv_abs {x w : Int} (h : 1 ≤ w) : (x / w).natAbs ≤ x.natAbs := Int.natAbs_ediv_le_natAbs x w
structure WOk1 (r : WIn) : Prop where
  l : r.l.natAbs ≤ 1000
  s : r.s.natAbs ≤ 1000
  m : r.m.natAbs ≤ 1000
theorem world_bd {a b f : Int} {gs : List Int} {t k : Nat} {s : ISt} {r : WIn} (hk : 14 ≤ k) (ha : a.natAbs < 2 ^ 13) (hb : b.natAbs < 2 ^ 13) (hg : (gI gs t).natAbs < 2 ^ 14) (hp : (pcW gs t).natAbs < 2 ^ 14) (hl : (ltW gs t - pcW gs t).natAbs < 2 ^ 14) (h : Bd k s) (hr : WOk1 r) :
    (wBoth a b gs t s r).natAbs < 2 ^ (k + 17) ∧ (wPush a b f gs t s r).natAbs < 2 ^ (k + 19) ∧ Bd (k + 24) (wNext a b f gs t s r) := by
  have kk : ∀ {x : Int}, x.natAbs ≤ 1000 → x.natAbs < 2 ^ k := fun hx => lt_up (k := 14) (by omega) hk
  have y : (s.x + r.m).natAbs < 2 ^ (k + 1) := natAbs_add_lt h.x (kk hr.m)
  have n0 : (s.x + r.m - gI gs t).natAbs < 2 ^ (k + 2) := natAbs_sub_lt y (lt_up hg (by omega))
  have n1 : (s.x + r.m - s.y0 - pcW gs t).natAbs < 2 ^ (k + 3) := natAbs_sub_lt (natAbs_sub_lt y (lt_up h.y0 (by omega))) (lt_up hp (by omega))
  have m0 := lt_up (natAbs_mul_lt ha n0) (show 13 + (k + 2) ≤ k + 16 by omega)
  have m1 := lt_up (natAbs_mul_lt hb n1) (show 13 + (k + 3) ≤ k + 16 by omega)
  have sm : (wBoth a b gs t s r).natAbs < 2 ^ (k + 17) := natAbs_add_lt m0 m1
  have dv : (wBoth a b gs t s r / pw2 f).natAbs < 2 ^ (k + 17) := Nat.lt_of_le_of_lt (fdiv_abs (pw2_pos f)) sm
  have pu : (wPush a b f gs t s r).natAbs < 2 ^ (k + 18) := natAbs_sub_lt (lt_up hl (by omega)) dv
  have pc : (s.v + wPush a b f gs t s r + r.l).natAbs < 2 ^ (k + 20) := natAbs_add_lt (natAbs_add_lt (lt_up h.v (by omega)) pu) (lt_up (kk hr.l) (by omega))
  refine ⟨sm, lt_up pu (by omega), ?_, lt_up pc (by omega), lt_up y (by omega)⟩
  show (s.x + (s.v + wPush a b f gs t s r + r.l) + r.s).natAbs < _
  exact lt_up (natAbs_add_lt (natAbs_add_lt (lt_up h.x (by omega)) pc) (lt_up (kk hr.s) (by omega))) (show k + 20 + 1 + 1 ≤ k + 24 by omega)
def wS0 (gs : List Int) : ISt := ⟨gI gs 0, 0, gI gs 0⟩
def worldC (jw : Nat) : List CS := [.asg (.tup [(.name 3), (.name 4), (.name 5), (.name 6)]) (.tup [(.ix (.var 1) (.con (.int 0))), (.con (.int 0)), (.ix (.var 1) (.con (.int 0))), (.lst true [])]),
  .asg (.tup [(.name 7), (.name 8), (.name 9), (.name 10)]) (.var 0),
  .for_ (.tup [(.name 11), (.tup [(.name 14), (.name 15), (.name 16)])]) (.enum (.var 2)) [.par2 17 18 (.call jw [(.var 1), (.var 11)]) (.bin .Add false (.var 3) (.var 16)),
    .asg (.name 12) (.bin .Add false (.bin .Mult false (.var 7) (.bin .Sub false (.var 18) (.ix (.var 17) (.con (.int 0))))) (.bin .Mult false (.var 8) (.bin .Sub false (.bin .Sub false (.var 18) (.var 5)) (.ix (.var 17) (.con (.int 1)))))),
    .asg (.name 13) (.bin .Sub false (.ix (.var 17) (.con (.int 2))) (.bin .RShift false (.var 12) (.var 9))),
    .append (.var 6) (.tup [(.var 3), (.var 4), (.var 18), (.var 13), (.bin .Sub false (.var 12) (.bin .LShift false (.bin .RShift false (.var 12) (.var 9)) (.var 9))), (.var 12)]),
    .asg (.name 4) (.bin .Add false (.bin .Add false (.var 4) (.var 13)) (.var 14)),
    .par2 3 5 (.bin .Add false (.bin .Add false (.var 3) (.var 4)) (.var 15)) (.var 18)],
  .ret (.tup [(.var 6), (.var 3), (.var 4)])]
structure WdOk (a b f bits : Int) (gs : List Int) (rs : List WIn) : Prop where
  h : HB a b f bits
  g0 : 0 < gs.length
  g1 : gs.length ≤ 100
  len : rs.length ≤ gs.length
  l15 : rs.length ≤ 15
  bd : ∀ x ∈ gs, -2000 ≤ x ∧ x ≤ 2000
  ok : ∀ r ∈ rs, WOk1 r
def spWorld (ds : List D) (S : DStore) (Q : QE) : Prop := ∃ a b f bits gs rs, ∃ qL : Nat, ds = [hndD a b f bits, .tup (gs.map D.int), .ref qL] ∧ S[qL]? = some (.lst (rs.map WIn.D)) ∧ WdOk a b f bits gs rs ∧
  ∀ p S', Kp S S' → S.length ≤ p → S'[p]? = some (.lst ((wTolds a b f gs 0 (wS0 gs) rs).map tupI)) → Q (.tup [.ref p, .int (wEnd a b f gs 0 (wS0 gs) rs).x, .int (wEnd a b f gs 0 (wS0 gs) rs).v]) S'
theorem spWorld_len : ∀ ds S Q, spWorld ds S Q → ds.length = 3 := by rintro _ _ _ ⟨_, _, _, _, _, _, _, rfl, _⟩; rfl
theorem world_ok {G : Fns} {jw : Nat} (hw : G.fn jw = spW) : ∀ ds S Q, spWorld ds S Q → wpSs G (worldC jw) (startD 19 ds) S { nx := fun _ S' => Q .non S', rt := Q } := by
  rintro ds S Q ⟨a, b, f, bits, gs, rs, qL, rfl, hL, W, hQ⟩
  have := W.h.h.a1; have := W.h.h.a2; have := W.h.h.b1; have := W.h.h.b2; have := W.h.h.f1; have := W.h.h.f2
  have hw1 := pw2_pos f
  have ha : a.natAbs < 2 ^ 13 := by have := W.h.a1; have := W.h.a2; omega
  have hb : b.natAbs < 2 ^ 13 := by have := W.h.b1; have := W.h.b2; omega
  have g0 := W.g0; have g1 := W.g1; have gl := W.len; have g15 := W.l15
  have e0 := at_g (gs := gs) (i := 0) (by decide) (by omega)
  have bg := gI_bd (B := 2000) (by decide) W.bd
  have bw := W_bd (B := 2000) (by decide) W.bd
  have b0 := bg 0
  unfold worldC
  refine ss_split 2 (fun ρ S' => ρ = [some (hndD a b f bits), some (.tup (gs.map D.int)), some (.ref qL), some (.int (gI gs 0)), some (.int 0), some (.int (gI gs 0)), some (.ref S.length), some (.int a), some (.int b), some (.int f), some (.int bits), none, none, none, none, none, none, none, none] ∧ S' = S ++ [.lst []]) (fun N hN => ?_) ?_
  · unfold hndD
    simp_arith only [e0]
    exact ⟨by trivial, by trivial, hN _ _ ⟨by simp [hndD], rfl⟩⟩
  rintro ρ S1 ⟨rfl, rfl⟩
  have kp : Kp S (S ++ [Cell.lst []]) := fun j c hj => by rw [List.getElem?_append_left (List.getElem?_eq_some_iff.mp hj).1]; exact hj
  have hq0 : (S ++ [Cell.lst []])[S.length]? = some (.lst []) := by simp
  have hLl : qL < S.length := (List.getElem?_eq_some_iff.mp hL).1
  have hSl : ∀ (j : Nat) (c : Cell), S[j]? = some c → j < S.length := fun j c hj => (List.getElem?_eq_some_iff.mp hj).1
  have hQ' := hQ S.length
  generalize S ++ [Cell.lst []] = S1 at *
  generalize hp : S.length = p at *
  (try simp_arith only [])
  refine ⟨_, by rw [lstOf_ref, kp _ _ hL]; rfl, ?_⟩
  refine walk_list (fun i ρ S' => ∃ (s : ISt) (acc : List (List Int)) (r11 r12 r13 r14 r15 r16 r17 r18 : Option D), ρ = [some (hndD a b f bits), some (.tup (gs.map D.int)), some (.ref qL), some (.int s.x), some (.int s.v), some (.int s.y0), some (.ref p), some (.int a), some (.int b), some (.int f), some (.int bits), r11, r12, r13, r14, r15, r16, r17, r18] ∧ S'[p]? = some (.lst (acc.map tupI)) ∧ Kp S S' ∧ acc.length = i ∧ Bd (30 + 24 * i) s ∧ wTolds a b f gs 0 (wS0 gs) rs = acc ++ wTolds a b f gs i s (rs.drop i) ∧ wEnd a b f gs 0 (wS0 gs) rs = wEnd a b f gs i s (rs.drop i))
    ⟨wS0 gs, [], none, none, none, none, none, none, none, none, rfl, hq0, kp, rfl, ⟨lt_up (k := 14) (show (gI gs 0).natAbs < 2 ^ 14 by omega) (by decide), Nat.two_pow_pos _, lt_up (k := 14) (show (gI gs 0).natAbs < 2 ^ 14 by omega) (by decide)⟩, rfl, rfl⟩ (fun i ρ S' ⟨_, _, _, _, _, _, _, _, _, _, _, _, hk, _⟩ => by show lstOf S' (.ref qL) = _; rw [lstOf_ref, hk _ _ hL]; rfl) (fun i x ρ S' hx hP => ?_) (fun ρ S' hP => ?_)
  · obtain ⟨s, acc, r11, r12, r13, r14, r15, r16, r17, r18, rfl, hq, hK, hl, hbd, hr, hend⟩ := hP
    have hi : i < rs.length := by
      have := (List.getElem?_eq_some_iff.mp hx).1
      rw [enum_len, List.length_map] at this; exact this
    have hxe : x = .tup [.int i, (rs[i]).D] := by
      rw [enum_get (x := (rs[i]).D) (by rw [List.getElem?_map, List.getElem?_eq_getElem hi]; rfl)] at hx
      exact (Option.some.inj hx).symm
    subst hxe
    have hro := W.ok _ (List.getElem_mem hi)
    rw [List.drop_eq_getElem_cons hi] at hr hend
    generalize hrr : rs[i] = r at *
    simp only [wTolds, wEnd] at hr hend
    have bgi := bg i
    have bwi := bw i
    obtain ⟨b1, b2, b3⟩ := world_bd (f := f) (k := 30 + 24 * i) (by omega) ha hb (gs := gs) (t := i) (by omega) (by omega) (by omega) hbd hro
    unfold DL.forTurn WIn.D
    (try simp_arith only [hw])
    refine ⟨by trivial, by trivial, gs, i, rfl, by omega, by omega, g1, ?_⟩
    unfold wshD
    (try simp_arith only [])
    refine ⟨mul_small_left (by omega) (by omega), mul_small_left (by omega) (by omega), by omega, lat hq, by omega, shl_ok (k := 30 + 24 * i + 17) (by omega) (Nat.lt_of_le_of_lt (fdiv_abs (pw2_pos f)) b1) (by omega) (by omega), _, hq, len_lt (by rw [List.length_map]; omega), ?_⟩
    refine ⟨wNext a b f gs i s r, acc ++ [wTold a b f gs i s r], _, _, _, _, _, _, _, _, rfl, ?_, ?_, by simp [hl], by rw [show 30 + 24 * (i + 1) = 30 + 24 * i + 24 by omega]; exact b3, by rw [hr]; simp, hend⟩
    · rw [set_get hq, List.map_append]; rfl
    · intro j c hj
      have := hSl j c hj
      rw [List.getElem?_set_ne (by omega)]; exact hK j c hj
  · obtain ⟨s, acc, r11, r12, r13, r14, r15, r16, r17, r18, rfl, hq, hK, hl, hbd, hr, hend⟩ := hP
    rw [enum_len, List.length_map] at hr hend
    rw [List.drop_length] at hr hend
    simp only [wTolds, wEnd, List.append_nil] at hr hend
    (try simp_arith only [])
    have := hQ' S' hK (Nat.le_refl _) (by rw [hr]; exact hq)
    rw [hend] at this
    exact this
/-! ### inputs -/
def inputsC (jt jp : Nat) : List CS := [.asg (.name 3) (.lst true []),
  .for_ (.name 4) (.range1 (.var 2)) [.asg (.name 5) (.lst true []),
    .for_ (.name 6) (.seq (.var 1)) [.append (.var 5) (.call jp [(.var 0), (.lst false [(.var 6), (.bin .Sub false (.con (.int 0)) (.var 6)), (.bin .Sub false (.call jt [(.var 0), (.bin .Add false (.bin .Mult false (.con (.int 2)) (.var 6)) (.con (.int 1)))]) (.var 6))])])],
    .append (.var 3) (.bi .tuple1 false [(.var 5)])],
  .ret (.var 3)]
def spInputs (ds : List D) (S : DStore) (Q : QE) : Prop := ∃ (n : Nat) (T l s q many : Int), ds = [.ref n, letsD l s q, .int many] ∧ Pot n T S ∧ T < 100000 ∧ LB l s q ∧ 0 ≤ many ∧ many ≤ 60 ∧ ∀ (p : Nat) (rs : List WIn) S', (rs.length : Int) = many → (∀ r ∈ rs, r.l.natAbs ≤ l.natAbs ∧ r.s.natAbs ≤ s.natAbs ∧ r.m.natAbs ≤ q.natAbs) → Pot n (T + 6 * many) S' → Fr n S S' → S.length ≤ p → S'[p]? = some (.lst (rs.map WIn.D)) → Q (.ref p) S'
theorem spInputs_len : ∀ ds S Q, spInputs ds S Q → ds.length = 3 := by rintro _ _ _ ⟨_, _, _, _, _, _, rfl, _⟩; rfl
theorem inputs_ok {G : Fns} {jt jp : Nat} (ht : G.fn jt = spTake) (hpk : G.fn jp = spPick) : ∀ ds S Q, spInputs ds S Q → wpSs G (inputsC jt jp) (startD 7 ds) S { nx := fun _ S' => Q .non S', rt := Q } := by
  rintro ds S0 Q ⟨n, T, l, s, q, many, rfl, hP, hT, hl, hm0, hm1, hQ⟩
  have := hl.l0; have := hl.l1; have := hl.s0; have := hl.s1; have := hl.q0; have := hl.q1
  have hB : Fr n S0 S0 := .refl
  have hpn : S0.length ≠ n := by have := hP.lt; omega
  have hp0 : (S0 ++ [Cell.lst []])[S0.length]? = some (.lst []) := by simp
  replace hB := hB.trans (Fr.app (cs := [Cell.lst []]))
  replace hP := hP.app (cs := [Cell.lst []])
  unfold inputsC
  simp_arith only []
  (repeat (refine And.intro (by first | omega | exact DL.mul_small_left (by omega) (by omega) | exact DL.mul_small_right (by omega) (by omega) | exact DL.div_om (by omega) (by omega) (by omega) | exact DL.cpow1 (by omega) (by omega) | exact ⟨by omega, by omega⟩ | exact DL.len_le (by (try simp only [List.length_map, List.length_append, List.length_cons, List.length_nil]); omega) | exact DL.len_lt (by (try simp only [List.length_map, List.length_append, List.length_cons, List.length_nil]); omega) | trivial | decide) ?_))
  have hS0 : S0.length ≤ S0.length := Nat.le_refl _
  have hlenA : (S0 ++ [Cell.lst []]).length = S0.length + 1 := by simp
  generalize hpe : S0.length = p at hpn hp0 hS0 ⊢
  generalize S0 ++ [Cell.lst []] = S at *
  refine walk_range (fun i ρ S' => (i : Int) ≤ many ∧ ∃ (rs : List WIn) (r4 r5 r6 : Option D), ρ = [some (.ref n), some (letsD l s q), some (.int many), some (.ref p), r4, r5, r6] ∧ Pot n (T + 6 * i) S' ∧ Fr n S0 S' ∧ p < S'.length ∧ S'[p]? = some (.lst (rs.map WIn.D)) ∧ rs.length = i ∧ ∀ r ∈ rs, r.l.natAbs ≤ l.natAbs ∧ r.s.natAbs ≤ s.natAbs ∧ r.m.natAbs ≤ q.natAbs)
    ⟨by omega, [], none, none, none, rfl, hP.mono (by omega), hB, by omega, hp0, rfl, fun r hr => by cases hr⟩ (fun _ _ _ _ => trivial) (fun i ρ S' hi hp => ?_) (fun ρ S' hp => ?_)
  · obtain ⟨hi9, rs, r4, r5, r6, rfl, hP, hB, hpl, hq, hrl, hrs⟩ := hp
    unfold DL.forTurn letsD
    (try simp_arith only [])
    have hqn : S'.length ≠ n := by have := hP.lt; omega
    have hc0 : (S' ++ [Cell.lst []])[S'.length]? = some (.lst []) := by simp
    have hpc : p ≠ S'.length := by omega
    have hSc : S0.length ≤ S'.length := hB.len
    replace hq : (S' ++ [Cell.lst []])[p]? = some (.lst (rs.map WIn.D)) := by rw [List.getElem?_append_left (by omega)]; exact hq
    replace hB := hB.trans (Fr.app (cs := [Cell.lst []]))
    replace hP := hP.app (cs := [Cell.lst []])
    generalize S'.length = c at *
    generalize S' ++ [Cell.lst []] = S at *
    refine walk_run ?_
    simp only [wW, DL.forTurn]
    have one : ∀ (B : Int) (T' : Int) (S : DStore) (xs : List D) (Q' : QE), 0 ≤ B → B ≤ 1000 → T' < 200000 → Pot n T' S → S[c]? = some (.lst xs) → S[p]? = some (.lst (rs.map WIn.D)) → Fr n S0 S →
        (∀ (v : Int) S', v.natAbs ≤ B.natAbs → Pot n (T' + 2) S' → S'[c]? = some (.lst xs) → S'[p]? = some (.lst (rs.map WIn.D)) → Fr n S0 S' → Q' (.int v) S') → ∀ e, e = (fun d S1 => spPick [.ref n, .lst [.int B, .int (0 - B), d]] S1 Q') → spTake [.ref n, .int (2 * B + 1)] S fun x S2 => binD .Sub false x (.int B) S2 e := by
      rintro B T' S xs Q' h0 h1 hT' hP hc hq hB hq' e rfl
      refine takeP hP (by omega) (by omega) (by omega) fun x S1 x0 x1 hP hF _ => ?_
      rw [o_sub]
      refine pickI (lo := -B) (hi := B) hP (by omega) (by simp only [allI, and_true]; omega) fun v S2 v0 v1 hP hF2 _ => ?_
      exact hq' v S2 (by omega) (hP.mono (by omega)) (hF2.get hqn (hF.get hqn hc)) (hF2.get hpn (hF.get hpn hq)) ((hB.trans hF).trans hF2)
    refine ⟨trivial, ?_⟩
    (try simp_arith only [ht, hpk])
    refine ⟨lat hc0, mul_small_left (by omega) (by omega), ?_⟩
    refine one l _ _ [] _ (by omega) (by omega) (by omega) hP hc0 hq hB (fun x1 S2 hx1 hP hc hq hB => ?_) _ rfl
    (try simp_arith only [ht, hpk])
    refine ⟨_, hc, len_lt (by simp), trivial, ?_⟩
    simp only [List.nil_append, List.cons_append]
    replace hP := hP.set (c := .lst [D.int x1]) hqn
    replace hB := hB.set (c := .lst [D.int x1]) hSc
    replace hq : (S2.set c (.lst [D.int x1]))[p]? = some (.lst (rs.map WIn.D)) := by rw [List.getElem?_set_ne (Ne.symm hpc)]; exact hq
    replace hc := set_get (d := .lst [D.int x1]) hc
    generalize S2.set c (.lst [D.int x1]) = S2 at *
    refine ⟨lat hc, mul_small_left (by omega) (by omega), ?_⟩
    refine one s _ _ [.int x1] _ (by omega) (by omega) (by omega) hP hc hq hB (fun x2 S3 hx2 hP hc hq hB => ?_) _ rfl
    (try simp_arith only [ht, hpk])
    refine ⟨_, hc, len_lt (by simp), trivial, ?_⟩
    simp only [List.nil_append, List.cons_append]
    replace hP := hP.set (c := .lst [D.int x1, D.int x2]) hqn
    replace hB := hB.set (c := .lst [D.int x1, D.int x2]) hSc
    replace hq : (S3.set c (.lst [D.int x1, D.int x2]))[p]? = some (.lst (rs.map WIn.D)) := by rw [List.getElem?_set_ne (Ne.symm hpc)]; exact hq
    replace hc := set_get (d := .lst [D.int x1, D.int x2]) hc
    generalize S3.set c (.lst [D.int x1, D.int x2]) = S3 at *
    refine ⟨lat hc, mul_small_left (by omega) (by omega), ?_⟩
    refine one q _ _ [.int x1, .int x2] _ (by omega) (by omega) (by omega) hP hc hq hB (fun x3 S4 hx3 hP hc hq hB => ?_) _ rfl
    (try simp_arith only [])
    refine ⟨_, hc, len_lt (by simp), trivial, ?_⟩
    simp only [List.nil_append, List.cons_append]
    replace hP := hP.set (c := .lst [D.int x1, D.int x2, D.int x3]) hqn
    replace hB := hB.set (c := .lst [D.int x1, D.int x2, D.int x3]) hSc
    replace hq : (S4.set c (.lst [D.int x1, D.int x2, D.int x3]))[p]? = some (.lst (rs.map WIn.D)) := by rw [List.getElem?_set_ne (Ne.symm hpc)]; exact hq
    replace hc := set_get (d := .lst [D.int x1, D.int x2, D.int x3]) hc
    generalize S4.set c (.lst [D.int x1, D.int x2, D.int x3]) = S4 at *
    (try simp_arith only [hc])
    refine ⟨lat hq, _, hq, len_lt (by rw [List.length_map]; omega), by omega, rs ++ [⟨x1, x2, x3⟩], _, _, _, rfl, (hP.set hpn).mono (by omega), hB.set (by omega), by rw [List.length_set]; exact (List.getElem?_eq_some_iff.mp hq).1, ?_, by simp [hrl], fun r hr => ?_⟩
    · rw [set_get hq, List.map_append]; rfl
    · rcases List.mem_append.mp hr with h | h
      · exact hrs r h
      · rw [List.mem_singleton.mp h]; exact ⟨hx1, hx2, hx3⟩
  · obtain ⟨hi9, rs, r4, r5, r6, rfl, hP, hB, hpl, hq, hrl, hrs⟩ := hp
    (try simp_arith only [])
    exact hQ p rs S' (by omega) hrs (hP.mono (by omega)) hB (by omega) hq
end DL

namespace DL
open PySem PySem.Spec PyProof.Rows L2
/-! ### the run that a wheel of whole numbers is -/
def runOfC (jl : Nat) : List CS := [.asg (.name 3) (.lst true []),
  .for_ (.tup [(.tup [(.name 4), (.name 5), (.name 6), (.name 7), (.name 8), (.name 9)]), (.tup [(.name 10), (.name 11), (.name 12)])]) (.zip2 (.var 1) (.var 2)) [.append (.var 3) (.tup [(.tup [(.var 10), (.con (.int 1))]), (.tup [(.var 11), (.con (.int 1))]), (.tup [(.var 12), (.con (.int 1))]), (.call jl [(.var 8), (.bin .LShift false (.con (.int 1)) (.ix (.var 0) (.con (.int 2))))])])],
  .ret (.bi .tuple1 false [(.var 3)])]
def spRunOf (ds : List D) (S : DStore) (Q : QE) : Prop := ∃ a b f bits gs rs, ∃ qT qL : Nat, ds = [hndD a b f bits, .ref qT, .ref qL] ∧ S[qT]? = some (.lst ((wTolds a b f gs 0 (wS0 gs) rs).map tupI)) ∧ S[qL]? = some (.lst (rs.map WIn.D)) ∧ HB a b f bits ∧ rs.length ≤ 100 ∧
  ∀ S', Kp S S' → Q (.tup ((wRows a b f gs 0 (wS0 gs) rs).map LRow.D)) S'
theorem spRunOf_len : ∀ ds S Q, spRunOf ds S Q → ds.length = 3 := by rintro _ _ _ ⟨_, _, _, _, _, _, _, _, rfl, _⟩; rfl
theorem zipGet {xs ys : List D} {j : Nat} {x : D} (h : (zipD xs ys)[j]? = some x) : ∃ y z, xs[j]? = some y ∧ ys[j]? = some z ∧ x = .tup [y, z] := by
  unfold zipD at h
  rw [List.getElem?_map] at h
  obtain ⟨p, hp, e⟩ := Option.map_eq_some_iff.mp h
  rw [List.getElem?_zip_eq_some] at hp
  exact ⟨p.1, p.2, hp.1, hp.2, e.symm⟩
theorem zipLen (xs ys : List D) : (zipD xs ys).length = min xs.length ys.length := by simp [zipD]
/-- what is told at a beat, and the state there -/
def wAt (a b f : Int) (gs : List Int) : Nat → Nat → ISt → List WIn → ISt
  | 0, _, s, _ => s
  | _, _, s, [] => s
  | j + 1, t, s, r :: rs => wAt a b f gs j (t + 1) (wNext a b f gs t s r) rs
theorem wTolds_get {a b f : Int} {gs : List Int} : ∀ (rs : List WIn) (t j : Nat) (s : ISt) (r : WIn), rs[j]? = some r → (wTolds a b f gs t s rs)[j]? = some (wTold a b f gs (t + j) (wAt a b f gs j t s rs) r) ∧ (wRows a b f gs t s rs)[j]? = some ⟨(r.l : Rat), (r.s : Rat), (r.m : Rat), (wLoss a b f gs (t + j) (wAt a b f gs j t s rs) r : Rat) / (pw2 f : Rat)⟩
  | [], _, _, _, _, h => by simp at h
  | x :: rs, t, 0, s, r, h => by
    simp at h; subst h
    exact ⟨rfl, rfl⟩
  | x :: rs, t, j + 1, s, r, h => by
    have ih := wTolds_get (a := a) (b := b) (f := f) (gs := gs) rs (t + 1) j (wNext a b f gs t s x) r (by simpa using h)
    rw [show t + (j + 1) = t + 1 + j by omega]
    exact ih
theorem runOf_ok {G : Fns} {jl : Nat} (hl : G.fn jl = spMade) : ∀ ds S Q, spRunOf ds S Q → wpSs G (runOfC jl) (startD 13 ds) S { nx := fun _ S' => Q .non S', rt := Q } := by
  rintro ds S Q ⟨a, b, f, bits, gs, rs, qT, qL, rfl, hT, hL, hh, hrl, hQ⟩
  have := hh.h.f1; have := hh.h.f2
  have h1 := pw2_pos f
  have h2 := pw2_le (f := f) (k := 8) (by omega)
  have kp : Kp S (S ++ [Cell.lst []]) := fun j c hj => by rw [List.getElem?_append_left (List.getElem?_eq_some_iff.mp hj).1]; exact hj
  have hq0 : (S ++ [Cell.lst []])[S.length]? = some (.lst []) := by simp
  have hSl : ∀ (j : Nat) (c : Cell), S[j]? = some c → j < S.length := fun j c hj => (List.getElem?_eq_some_iff.mp hj).1
  unfold runOfC
  simp_arith only []
  generalize S ++ [Cell.lst []] = S1 at *
  generalize hp : S.length = p at *
  have lt : ∀ {S' : DStore}, Kp S S' → tlOf S' (.ref qT) = some ((wTolds a b f gs 0 (wS0 gs) rs).map tupI) ∧ tlOf S' (.ref qL) = some (rs.map WIn.D) := fun k => by
    constructor
    · show lstOf _ (.ref qT) = _; rw [lstOf_ref, k _ _ hT]; rfl
    · show lstOf _ (.ref qL) = _; rw [lstOf_ref, k _ _ hL]; rfl
  refine ⟨_, _, (lt kp).1, (lt kp).2, ?_⟩
  refine walk_list (fun i ρ S' => ∃ (r4 r5 r6 r7 r8 r9 r10 r11 r12 : Option D), ρ = [some (hndD a b f bits), some (.ref qT), some (.ref qL), some (.ref p), r4, r5, r6, r7, r8, r9, r10, r11, r12] ∧ S'[p]? = some (.lst (((wRows a b f gs 0 (wS0 gs) rs).take i).map LRow.D)) ∧ Kp S S' ∧ i ≤ rs.length)
    ⟨_, _, _, _, _, _, _, _, _, rfl, by simpa using hq0, kp, by omega⟩ (fun i ρ S' ⟨_, _, _, _, _, _, _, _, _, _, _, hk, _⟩ => lt hk) (fun i x ρ S' hx hP => ?_) (fun ρ S' hP => ?_)
  · obtain ⟨r4, r5, r6, r7, r8, r9, r10, r11, r12, rfl, hq, hK, hi⟩ := hP
    obtain ⟨y, z, hy, hz, rfl⟩ := zipGet hx
    have hir : i < rs.length := by have := (List.getElem?_eq_some_iff.mp hz).1; simpa using this
    rw [List.getElem?_map, List.getElem?_eq_getElem hir] at hz
    obtain ⟨g1, g2⟩ := wTolds_get (a := a) (b := b) (f := f) (gs := gs) rs 0 i (wS0 gs) rs[i] (List.getElem?_eq_getElem hir)
    rw [Nat.zero_add] at g1 g2
    rw [List.getElem?_map, g1] at hy
    cases hy; cases hz
    generalize rs[i] = r at *
    generalize wAt a b f gs i 0 (wS0 gs) rs = st at *
    unfold DL.forTurn tupI wTold WIn.D hndD
    (try simp_arith only [pw2_one, hl])
    refine ⟨by trivial, by trivial, by trivial, lat hq, cpow1 (by omega) (by omega), ?_⟩
    refine madeF (k := 20) (by omega) (by omega) (by decide) ?_
    refine ⟨_, hq, len_lt (by rw [List.length_map, List.length_take]; omega), _, _, _, _, _, _, _, _, _, rfl, ?_, ?_, by omega⟩
    · rw [set_get hq, List.take_add_one, g2, List.map_append]; rfl
    · intro j c hj
      have := hSl j c hj
      rw [List.getElem?_set_ne (by omega)]; exact hK j c hj
  · obtain ⟨r4, r5, r6, r7, r8, r9, r10, r11, r12, rfl, hq, hK, hi⟩ := hP
    rw [zipLen, List.length_map, List.length_map, wTolds_len, Nat.min_self, List.take_of_length_le (by rw [wRows_len]; exact Nat.le_refl _)] at hq
    (try simp_arith only [hq])
    exact hQ S' hK
def drawnC (jt jg jw : Nat) : List CS := [.par2 3 4 (.call jg [(.var 0)]) (.call jw [(.var 0), (.bin .Add false (.con (.int 1)) (.call jt [(.var 0), (.var 1)]))]),
  .asg (.name 2) (.tup [(.call jt [(.var 0), (.con (.int 4))]), (.call jt [(.var 0), (.con (.int 3))]), (.call jt [(.var 0), (.con (.int 3))])]),
  .ret (.tup [(.var 3), (.var 2), (.var 4)])]
structure G2 (n : Int) (gs : List Int) : Prop where
  two : 2 ≤ gs.length
  most : (gs.length : Int) ≤ n
  bd : ∀ x ∈ gs, -1400 ≤ x ∧ x ≤ 1400
def spDrawn (ds : List D) (S : DStore) (Q : QE) : Prop := ∃ n T most, ds = [.ref n, .int most] ∧ Pot n T S ∧ T < 1000000 ∧ 0 < most ∧ most ≤ 25 ∧ ∀ (a b f bits l s q : Int) (gs : List Int) S', HB a b f bits → LB l s q → l ≤ 3 → s ≤ 3 → q ≤ 3 → G2 (most + 1) gs → Pot n (T + 60) S' → Fr n S S' → Q (.tup [hndD a b f bits, letsD l s q, .tup (gs.map D.int)]) S'
theorem spDrawn_len : ∀ ds S Q, spDrawn ds S Q → ds.length = 2 := by rintro _ _ _ ⟨_, _, _, rfl, _⟩; rfl
theorem drawn_ok {G : Fns} {jt jg jw : Nat} (ht : G.fn jt = spTake) (hg : G.fn jg = spGain) (hw : G.fn jw = spWishes2) : ∀ ds S Q, spDrawn ds S Q → wpSs G (drawnC jt jg jw) (startD 5 ds) S { nx := fun _ S' => Q .non S', rt := Q } := by
  rintro ds S0 Q ⟨n, T, most, rfl, hP, hT, h0, h25, hQ⟩
  have hB : Fr n S0 S0 := .refl
  unfold drawnC
  simp_arith only [hg]
  refine ⟨n, _, rfl, hP, by omega, fun a b f bits S hh hP hF => ?_⟩
  replace hB := hB.trans hF
  (try simp_arith only [ht])
  refine DL.takeP hP (by omega) (by omega) (by omega) fun v S _ _ hP hF _ => ?_; replace hB := hB.trans hF; clear hF
  (try simp_arith only [hw])
  refine ⟨n, _, _, rfl, hP, by omega, by omega, by omega, fun gs S hgl hgb hP hF => ?_⟩
  replace hB := hB.trans hF
  (try simp_arith only [ht])
  refine DL.takeP hP (by omega) (by omega) (by omega) fun l S _ _ hP hF _ => ?_; replace hB := hB.trans hF; clear hF
  (try simp_arith only [ht])
  refine DL.takeP hP (by omega) (by omega) (by omega) fun s S _ _ hP hF _ => ?_; replace hB := hB.trans hF; clear hF
  (try simp_arith only [ht])
  refine DL.takeP hP (by omega) (by omega) (by omega) fun q S _ _ hP hF _ => ?_; replace hB := hB.trans hF; clear hF
  (try simp_arith only [])
  exact hQ a b f bits l s q gs _ hh ⟨by omega, by omega, by omega, by omega, by omega, by omega⟩ (by omega) (by omega) (by omega) ⟨by omega, by omega, hgb⟩ (hP.mono (by omega)) hB
/-! ### led by fractions it has the same places -/
def ISt.r (s : ISt) : LSt := ⟨(s.x : Rat), (s.v : Rat), (s.y0 : Rat)⟩
section
variable {a b f : Int} {gs : List Int}
theorem loss_bd (t : Nat) (s : ISt) (r : WIn) : 0 ≤ wLoss a b f gs t s r ∧ wLoss a b f gs t s r < pw2 f := by
  have hw := pw2_pos f
  have h1 := Int.ediv_mul_le (wBoth a b gs t s r) (show pw2 f ≠ 0 by omega)
  have h2 := Int.lt_ediv_add_one_mul_self (wBoth a b gs t s r) (show 0 < pw2 f by omega)
  rw [Int.add_mul] at h2
  unfold wLoss
  omega
theorem push_w (t : Nat) (s : ISt) (r : WIn) : exq a b f (gI gs t) (pcW gs t) (ltW gs t - pcW gs t) ((s.x : Rat) + (r.m : Rat)) (s.y0 : Rat) + (wLoss a b f gs t s r : Rat) / (pw2 f : Rat) = (wPush a b f gs t s r : Rat) := by
  have w0 := w_ne f
  have e : (wBoth a b gs t s r : Rat) = (a : Rat) * ((s.x : Rat) + (r.m : Rat) + -(gI gs t : Rat)) + (b : Rat) * ((s.x : Rat) + (r.m : Rat) + -(s.y0 : Rat) + -(pcW gs t : Rat)) := by
    unfold wBoth
    simp only [Rat.intCast_add, Rat.intCast_mul, Rat.intCast_sub]
    grind
  unfold exq wPush wLoss
  rw [← e]
  simp only [Rat.intCast_sub, Rat.intCast_mul]
  generalize (pw2 f : Rat) = w at *
  generalize ((wBoth a b gs t s r / pw2 f : Int) : Rat) = z
  grind
theorem led_w : ∀ (rs : List WIn) (t : Nat) (s : ISt), ledEnd a b f gs t s.r (wRows a b f gs t s rs) = (wEnd a b f gs t s rs).r ∧ ledRows a b f gs t s.r (wRows a b f gs t s rs) = (wTolds a b f gs t s rs).map fun r => .tup ((r.take 4).map fun (k : Int) => frD (k : Rat))
  | [], t, s => ⟨rfl, rfl⟩
  | r :: rs, t, s => by
    have hp := push_w (a := a) (b := b) (f := f) (gs := gs) t s r
    have hu : ledU a b f gs t s.r ⟨(r.l : Rat), (r.s : Rat), (r.m : Rat), (wLoss a b f gs t s r : Rat) / (pw2 f : Rat)⟩ = (wPush a b f gs t s r : Rat) := hp
    have hn : ledN a b f gs t s.r ⟨(r.l : Rat), (r.s : Rat), (r.m : Rat), (wLoss a b f gs t s r : Rat) / (pw2 f : Rat)⟩ = (wNext a b f gs t s r).r := by
      unfold ledN ledV
      rw [hu]
      unfold wNext ISt.r
      simp only [Rat.intCast_add]
    have ih := led_w rs (t + 1) (wNext a b f gs t s r)
    simp only [ledEnd, ledRows, wRows, wEnd, wTolds, List.map_cons, hn]
    refine ⟨ih.1, ?_⟩
    rw [ih.2]
    congr 1
    unfold ledRow
    rw [hu]
    unfold wTold ISt.r
    simp only [List.take_succ_cons, List.take_zero, List.map_cons, List.map_nil, Rat.intCast_add]
theorem rk_i {k : Nat} {n : Int} (h : n.natAbs < 2 ^ k) (hk : k ≤ 699) : Rk 700 (n : Rat) := rk_int (lt_up h (by omega)) (by decide)
theorem ledOk_w (ha : a.natAbs < 2 ^ 13) (hb : b.natAbs < 2 ^ 13) (hf : f ≤ 8) (hg : ∀ x ∈ gs, -2000 ≤ x ∧ x ≤ 2000) : ∀ (rs : List WIn) (t : Nat) (s : ISt), Bd (30 + 24 * t) s → t + rs.length ≤ 20 → (∀ r ∈ rs, WOk1 r) → LedOk a b f gs t s.r (wRows a b f gs t s rs)
  | [], _, _, _, _, _ => trivial
  | r :: rs, t, s, hbd, hl, hr => by
    simp only [List.length_cons] at hl
    have bg := gI_bd (B := 2000) (by decide) hg t
    have bw := W_bd (B := 2000) (by decide) hg t
    have ro := hr r (List.mem_cons_self ..)
    obtain ⟨b1, b2, b3⟩ := world_bd (f := f) (k := 30 + 24 * t) (by omega) ha hb (gs := gs) (t := t) (by omega) (by omega) (by omega) hbd ro
    have hu : ledU a b f gs t s.r ⟨(r.l : Rat), (r.s : Rat), (r.m : Rat), (wLoss a b f gs t s r : Rat) / (pw2 f : Rat)⟩ = (wPush a b f gs t s r : Rat) := push_w t s r
    have hv : ledV a b f gs t s.r ⟨(r.l : Rat), (r.s : Rat), (r.m : Rat), (wLoss a b f gs t s r : Rat) / (pw2 f : Rat)⟩ = ((wNext a b f gs t s r).v : Rat) := by
      unfold ledV; rw [hu]; unfold wNext ISt.r; simp only [Rat.intCast_add]
    have hn : ledN a b f gs t s.r ⟨(r.l : Rat), (r.s : Rat), (r.m : Rat), (wLoss a b f gs t s r : Rat) / (pw2 f : Rat)⟩ = (wNext a b f gs t s r).r := by
      unfold ledN
      rw [hv]
      unfold wNext ISt.r
      simp only [Rat.intCast_add]
    have ih := ledOk_w ha hb hf hg rs (t + 1) (wNext a b f gs t s r) (by rw [show 30 + 24 * (t + 1) = 30 + 24 * t + 24 by omega]; exact b3) (by omega) fun x hx => hr x (List.mem_cons_of_mem _ hx)
    have lb := loss_bd (a := a) (b := b) (f := f) (gs := gs) t s r
    have hw1 := pw2_pos f
    have hw2 := pw2_le (f := f) (k := 8) (by omega)
    have sm : ∀ {x : Int}, x.natAbs ≤ 1000 → Rk 700 (x : Rat) := fun h => rk_i (k := 14) (by omega) (by decide)
    have cx : ∀ x y : Int, (x : Rat) + (y : Rat) = ((x + y : Int) : Rat) := fun x y => by rw [Rat.intCast_add]
    refine ⟨rk_i hbd.x (by omega), rk_i hbd.v (by omega), rk_i hbd.y0 (by omega), ?_, sm ro.l, sm ro.s, sm ro.m, ?_, ?_, ?_, ?_, ?_, ?_⟩
    · show Rk 700 ((s.x : Rat) + (r.m : Rat))
      rw [cx]; exact rk_i (natAbs_add_lt hbd.x (lt_up (k := 14) (show r.m.natAbs < 2 ^ 14 by have := ro.m; omega) (by omega))) (by omega)
    · exact rk_div (by omega) (lt_up (k := 20) (by omega) (by decide)) (lt_up (k := 20) (by omega) (by decide))
    · rw [hu]; exact rk_i b2 (by omega)
    · show Rk 700 ((s.v : Rat) + ledU a b f gs t s.r _)
      rw [hu, cx]; exact rk_i (natAbs_add_lt (lt_up hbd.v (by omega)) b2) (by omega)
    · rw [hv]; exact rk_i b3.v (by omega)
    · show Rk 700 ((s.x : Rat) + ledV a b f gs t s.r _)
      rw [hv, cx]; exact rk_i (natAbs_add_lt (lt_up hbd.x (by omega)) b3.v) (by omega)
    · rw [hn]; exact ih
end
end DL

namespace DL
open PySem PySem.Spec PyProof.Rows L2
/-! ### runs looked at -/
def isWholeC : List CS := [.ret (.and_ (.isi .int (.var 0)) (.not_ (.isi .bool (.var 0))))]
def isWh : D → Bool
  | .int _ => true
  | _ => false
def spIsWh (ds : List D) (S : DStore) (Q : QE) : Prop := ∃ d, ds = [d] ∧ (∀ n, d ≠ .ref n) ∧ (∀ n, d ≠ .scr n) ∧ Q (.bl (isWh d)) S
theorem spIsWh_len : ∀ ds S Q, spIsWh ds S Q → ds.length = 1 := by rintro _ _ _ ⟨_, rfl, _⟩; rfl
theorem isWh_ok {G : Fns} : ∀ ds S Q, spIsWh ds S Q → wpSs G isWholeC (startD 1 ds) S { nx := fun _ S' => Q .non S', rt := Q } := by
  rintro ds S Q ⟨d, rfl, h1, h2, hQ⟩
  unfold isWholeC
  cases d with
  | ref n => exact absurd rfl (h1 n)
  | scr n => exact absurd rfl (h2 n)
  | non => simp_arith only []; exact hQ
  | bl b => simp_arith only []; exact hQ
  | int i => simp_arith only []; exact hQ
  | str x => simp_arith only []; exact hQ
  | tup xs => simp_arith only []; exact hQ
  | lst xs => simp_arith only []; exact hQ
  | key ks => simp_arith only []; exact hQ
def isFracC (jw jc : Nat) : List CS := [.if_ (.cor (.cnot (.cval (.isi .tuple (.var 0)))) (.cor (.ccmp .NotEq (.bi .len false [(.var 0)]) (.con (.int 2))) (.cnot (.cval (.bi .all1 false [(.lc false (.call jw [(.var 1)]) (.name 1) (.seq (.var 0)) [] [1])]))))) [.ret (.con (.bl false))] [],
  .ret (.and_ (.cmp .Gt (.ix (.var 0) (.con (.int 1))) (.con (.int 0))) (.cmp .Eq (.call jc [(.ix (.var 0) (.con (.int 0))), (.ix (.var 0) (.con (.int 1)))]) (.con (.int 1))))]
def isF (p : Int × Int) : Bool := decide (0 < p.2) && decide (Int.gcd p.1 p.2 = 1)
def spIsF (ds : List D) (S : DStore) (Q : QE) : Prop := ∃ p, ds = [prD p] ∧ Q (.bl (isF p)) S
theorem spIsF_len : ∀ ds S Q, spIsF ds S Q → ds.length = 1 := by rintro _ _ _ ⟨_, rfl, _⟩; rfl
theorem isF_ok {G : Fns} {jw jc : Nat} (hw : G.fn jw = spIsWh) (hc : G.fn jc = spCommon) : ∀ ds S Q, spIsF ds S Q → wpSs G (isFracC jw jc) (startD 2 ds) S { nx := fun _ S' => Q .non S', rt := Q } := by
  rintro ds S Q ⟨⟨n, d⟩, rfl, hQ⟩
  unfold isFracC prD
  simp_arith only []
  refine gather_run (by show 2 ≤ sizeLine; decide) ?_
  simp only [gW, DL.lcTurn]
  refine ⟨by simp, ?_⟩
  (try simp_arith only [hw])
  refine ⟨_, rfl, (fun _ z => by cases z), (fun _ z => by cases z), by simp, ?_⟩
  refine ⟨_, rfl, (fun _ z => by cases z), (fun _ z => by cases z), by simp, ?_⟩
  (try simp_arith only [])
  refine ⟨_, [true, true], rfl, rfl, ?_⟩
  (try simp_arith only [hc])
  have e : (List.all [true, true] id) = true := rfl
  (try simp_arith only [e])
  unfold isF at hQ
  refine if_i (fun h => ?_) fun h => ?_
  · refine ⟨n, d, rfl, ?_⟩
    (try simp_arith only [])
    have ec : ((Int.gcd n d : Nat) : Int) = 1 ↔ Int.gcd n d = 1 := by omega
    simp only [ec]
    simpa [h] using hQ
  · simpa [h] using hQ
def isBelowC : List CS := [.ret (.cmp .Lt (.bin .Mult false (.ix (.var 0) (.con (.int 0))) (.ix (.var 1) (.con (.int 1)))) (.bin .Mult false (.ix (.var 1) (.con (.int 0))) (.ix (.var 0) (.con (.int 1)))))]
def below (x y : Int × Int) : Bool := decide (x.1 * y.2 < y.1 * x.2)
structure Sm2 (p : Int × Int) : Prop where
  n : p.1.natAbs < 2 ^ 60
  d : p.2.natAbs < 2 ^ 60
def spBelow (ds : List D) (S : DStore) (Q : QE) : Prop := ∃ x y, ds = [prD x, prD y] ∧ Sm2 x ∧ Sm2 y ∧ Q (.bl (below x y)) S
theorem spBelow_len : ∀ ds S Q, spBelow ds S Q → ds.length = 2 := by rintro _ _ _ ⟨_, _, rfl, _⟩; rfl
theorem below_ok {G : Fns} : ∀ ds S Q, spBelow ds S Q → wpSs G isBelowC (startD 2 ds) S { nx := fun _ S' => Q .non S', rt := Q } := by
  rintro ds S Q ⟨⟨a, b⟩, ⟨c, d⟩, rfl, hx, hy, hQ⟩
  have h1 := hx.n; have h2 := hx.d; have h3 := hy.n; have h4 := hy.d
  simp only at h1 h2 h3 h4
  unfold isBelowC prD
  simp_arith only []
  exact ⟨mul_small_left (by omega) (by omega), mul_small_left (by omega) (by omega), hQ⟩
def sizeOfC : List CS := [.ret (.tup [(.bi .abs false [(.ix (.var 0) (.con (.int 0)))]), (.ix (.var 0) (.con (.int 1)))])]
def spSizeOf (ds : List D) (S : DStore) (Q : QE) : Prop := ∃ x : Int × Int, ds = [prD x] ∧ Q (prD ((x.1.natAbs : Int), x.2)) S
theorem spSizeOf_len : ∀ ds S Q, spSizeOf ds S Q → ds.length = 1 := by rintro _ _ _ ⟨_, rfl, _⟩; rfl
theorem sizeOf_ok {G : Fns} : ∀ ds S Q, spSizeOf ds S Q → wpSs G sizeOfC (startD 1 ds) S { nx := fun _ S' => Q .non S', rt := Q } := by
  rintro ds S Q ⟨⟨a, b⟩, rfl, hQ⟩
  unfold sizeOfC prD
  simp_arith only []
  have e : (if a < 0 then -a else a) = (a.natAbs : Int) := by split <;> omega
  rw [e]; exact hQ
structure PRow where
  a : Int × Int
  b : Int × Int
  c : Int × Int
  d : Int × Int
def PRow.D (r : PRow) : DL.D := .tup [prD r.a, prD r.b, prD r.c, prD r.d]
/-- the greatest loss as two numbers -/
def glP (f : Int) : Int × Int := ((hiK f 0 0 0 3).num, (hiK f 0 0 0 3).den)
def rowB (f l s q : Int) (r : PRow) : Bool := isF r.a && isF r.b && isF r.c && isF r.d && !below (l, 1) ((r.a.1.natAbs : Int), r.a.2) && !below (s, 1) ((r.b.1.natAbs : Int), r.b.2) && !below (q, 1) ((r.c.1.natAbs : Int), r.c.2) && decide (0 ≤ r.d.1) && !below (glP f) r.d
structure PSm (r : PRow) : Prop where
  a : Sm2 r.a
  b : Sm2 r.b
  c : Sm2 r.c
  d : Sm2 r.d
def isRowC (jf jb js jg : Nat) : List CS := [.if_ (.cor (.cnot (.cval (.isi .tuple (.var 2)))) (.cor (.ccmp .NotEq (.bi .len false [(.var 2)]) (.con (.int 4))) (.cnot (.cval (.bi .all1 false [(.lc false (.call jf [(.var 4)]) (.name 4) (.seq (.var 2)) [] [4])]))))) [.ret (.con (.bl false))] [],
  .for_ (.tup [(.name 3), (.name 4)]) (.zip2 (.var 1) (.var 2)) [.if_ (.cval (.call jb [(.tup [(.var 3), (.con (.int 1))]), (.call js [(.var 4)])])) [.ret (.con (.bl false))] []],
  .ret (.and_ (.cmp .GtE (.ix (.ix (.var 2) (.con (.int 3))) (.con (.int 0))) (.con (.int 0))) (.not_ (.call jb [(.call jg [(.var 0)]), (.ix (.var 2) (.con (.int 3)))])))]
def spIsRow (ds : List D) (S : DStore) (Q : QE) : Prop := ∃ a b f bits l s q, ∃ r : PRow, ds = [hndD a b f bits, letsD l s q, r.D] ∧ HOk a b f bits ∧ LB l s q ∧ PSm r ∧ Q (.bl (rowB f l s q r)) S
theorem spIsRow_len : ∀ ds S Q, spIsRow ds S Q → ds.length = 3 := by rintro _ _ _ ⟨_, _, _, _, _, _, _, _, rfl, _⟩; rfl
theorem glP_sm {f : Int} (hf : f ≤ 8) : Sm2 (glP f) := by
  have hw := pw2_pos f
  have hw2 := pw2_le (f := f) (k := 8) (by omega)
  have : Rk 20 (hiK f 0 0 0 3) := rk_div (by omega) (by omega) (by omega)
  exact ⟨lt_up this.n (by decide), lt_up (show ((hiK f 0 0 0 3).den : Int).natAbs < 2 ^ 20 by simpa using this.d) (by decide)⟩
theorem isRow_ok {G : Fns} {jf jb js jg : Nat} (hf : G.fn jf = spIsF) (hb : G.fn jb = spBelow) (hs : G.fn js = spSizeOf) (hg : G.fn jg = spGLoss) : ∀ ds S Q, spIsRow ds S Q → wpSs G (isRowC jf jb js jg) (startD 5 ds) S { nx := fun _ S' => Q .non S', rt := Q } := by
  rintro ds S Q ⟨a, b, f, bits, l, s, q, r, rfl, hh, hl, hr, hQ⟩
  have := hl.l0; have := hl.l1; have := hl.s0; have := hl.s1; have := hl.q0; have := hl.q1
  have ab : ∀ {p : Int × Int}, Sm2 p → Sm2 ((p.1.natAbs : Int), p.2) := fun h => ⟨by simpa using h.n, h.d⟩
  have sb : ∀ {B : Int}, 0 ≤ B → B ≤ 1000 → Sm2 (B, 1) := fun {B} h0 h1 => ⟨(show B.natAbs < 2 ^ 60 by omega), (show (1 : Int).natAbs < 2 ^ 60 by decide)⟩
  unfold isRowC PRow.D
  simp_arith only []
  refine gather_run (by show 4 ≤ sizeLine; decide) ?_
  simp only [gW, DL.lcTurn]
  refine ⟨by simp, ?_⟩
  (try simp_arith only [hf])
  refine ⟨_, rfl, by simp, ?_⟩
  (try simp_arith only [hf])
  refine ⟨_, rfl, by simp, ?_⟩
  (try simp_arith only [hf])
  refine ⟨_, rfl, by simp, ?_⟩
  (try simp_arith only [hf])
  refine ⟨_, rfl, by simp, ?_⟩
  (try simp_arith only [])
  refine ⟨_, [isF r.a, isF r.b, isF r.c, isF r.d], rfl, rfl, ?_⟩
  have eall : List.all [isF r.a, isF r.b, isF r.c, isF r.d] id = (isF r.a && isF r.b && isF r.c && isF r.d) := by
    simp only [List.all_cons, List.all_nil, id, Bool.and_true, Bool.and_assoc]
  rw [eall]
  unfold rowB at hQ
  cases hff : (isF r.a && isF r.b && isF r.c && isF r.d) with
  | false => rw [hff] at hQ; (try simp_arith only []); simpa using hQ
  | true =>
    rw [hff] at hQ
    unfold letsD
    (try simp_arith only [])
    have ez : zipD [D.int l, D.int s, D.int q] [prD r.a, prD r.b, prD r.c, prD r.d] = [.tup [.int l, prD r.a], .tup [.int s, prD r.b], .tup [.int q, prD r.c]] := rfl
    rw [ez]
    refine walk_run ?_
    simp only [wW, DL.forTurn]
    refine ⟨trivial, ?_⟩
    have eb : ∀ B : Int, D.tup [.int B, .int 1] = prD (B, 1) := fun _ => rfl
    have xd : ∀ {S : DStore} {p : Int × Int} {QD : D → Prop}, ixD S (prD p) (.int 0) QD = QD (.int p.1) := fun {S p QD} => by unfold prD; rw [x_tup, a_0, ex_some]
    (try simp_arith only [hs, hb, eb])
    refine ⟨by trivial, r.a, rfl, ?_⟩
    refine ⟨_, _, rfl, sb (by omega) (by omega), ab hr.a, ?_⟩
    (try simp_arith only [])
    cases h1 : below (l, 1) ((r.a.1.natAbs : Int), r.a.2) with
    | true => rw [h1] at hQ; (try simp_arith only []); simpa using hQ
    | false =>
      rw [h1] at hQ
      (try simp_arith only [hs, hb, eb])
      refine ⟨trivial, by trivial, r.b, rfl, ?_⟩
      refine ⟨_, _, rfl, sb (by omega) (by omega), ab hr.b, ?_⟩
      (try simp_arith only [])
      cases h2 : below (s, 1) ((r.b.1.natAbs : Int), r.b.2) with
      | true => rw [h2] at hQ; (try simp_arith only []); simpa using hQ
      | false =>
        rw [h2] at hQ
        (try simp_arith only [hs, hb, eb])
        refine ⟨trivial, by trivial, r.c, rfl, ?_⟩
        refine ⟨_, _, rfl, sb (by omega) (by omega), ab hr.c, ?_⟩
        (try simp_arith only [])
        cases h3 : below (q, 1) ((r.c.1.natAbs : Int), r.c.2) with
        | true => rw [h3] at hQ; (try simp_arith only []); simpa using hQ
        | false =>
          rw [h3] at hQ
          (try simp_arith only [xd, hg, hb])
          refine ⟨trivial, if_i (fun h4 => ?_) fun h4 => ?_⟩
          · refine ⟨a, b, f, bits, 0, 0, 0, rfl, hh, ?_⟩
            refine ⟨glP f, r.d, rfl, glP_sm hh.f2, hr.d, ?_⟩
            (try simp_arith only [])
            simpa [h4] using hQ
          · simpa [h4] using hQ
def isRunC (jr : Nat) : List CS := [.if_ (.cor (.cnot (.cval (.isi .tuple (.var 3)))) (.ccmp .NotEq (.bi .len false [(.var 3)]) (.bin .Sub false (.bi .len false [(.var 2)]) (.con (.int 1))))) [.ret (.con (.bl false))] [],
  .ret (.bi .all1 false [(.lc false (.call jr [(.var 0), (.var 1), (.var 4)]) (.name 4) (.seq (.var 3)) [] [4])])]
def spIsRun (ds : List D) (S : DStore) (Q : QE) : Prop := ∃ a b f bits l s q, ∃ (gs : List Int) (rs : List PRow), ds = [hndD a b f bits, letsD l s q, .tup (gs.map D.int), .tup (rs.map PRow.D)] ∧ HOk a b f bits ∧ LB l s q ∧ (∀ r ∈ rs, PSm r) ∧ rs.length + 1 = gs.length ∧ rs.length ≤ 1000 ∧ Q (.bl (rs.all (rowB f l s q))) S
theorem spIsRun_len : ∀ ds S Q, spIsRun ds S Q → ds.length = 4 := by rintro _ _ _ ⟨_, _, _, _, _, _, _, _, _, rfl, _⟩; rfl
theorem isRun_ok {G : Fns} {jr : Nat} (hr : G.fn jr = spIsRow) : ∀ ds S Q, spIsRun ds S Q → wpSs G (isRunC jr) (startD 5 ds) S { nx := fun _ S' => Q .non S', rt := Q } := by
  rintro ds S Q ⟨a, b, f, bits, l, s, q, gs, rs, rfl, hh, hl, hrs, hlen, h1000, hQ⟩
  have e1 : (rs.length : Int) = (gs.length : Int) - 1 := by omega
  unfold isRunC
  simp_arith only [List.length_map, e1]
  refine gather_map PRow.D (fun r => .bl (rowB f l s q r)) (len_le (by omega)) trivial (fun x hx N hN => ?_) ?_
  · unfold lcTurn
    (try simp_arith only [hr])
    exact ⟨a, b, f, bits, l, s, q, x, rfl, hh, hl, hrs x hx, hN⟩
  have e2 : (rs.map fun r => D.bl (rowB f l s q r)) = (rs.map (rowB f l s q)).map D.bl := by rw [List.map_map]; rfl
  rw [e2]
  (try simp_arith only [f_allB])
  rw [List.all_map]
  exact hQ
/-! ### of rows that are let -/
def prOf (x : Rat) : Int × Int := (x.num, x.den)
def pRow (r : LRow) : PRow := ⟨prOf r.l, prOf r.s, prOf r.m, prOf r.z⟩
theorem pRow_D (r : LRow) : (pRow r).D = r.D := rfl
theorem isF_pr (x : Rat) : isF (prOf x) = true := by
  unfold isF prOf
  have h1 := den_pos x
  have h2 : Int.gcd x.num x.den = 1 := by
    have := x.reduced
    simpa [Int.gcd, Nat.Coprime] using this
  simp only [Bool.and_eq_true, decide_eq_true_eq]
  exact ⟨h1, h2⟩
theorem sm_pr {x : Rat} (h : Rk 20 x) : Sm2 (prOf x) := ⟨lt_up h.n (by decide), lt_up (show ((x.den : Int)).natAbs < 2 ^ 20 by simpa using h.d) (by decide)⟩
theorem num_mul' (A : Rat) : ((A.num : Int) : Rat) = A * ((A.den : Int) : Rat) := by
  have := Rat.div_mul_cancel (den_ne A) (a := ((A.num : Int) : Rat))
  rw [rat_self] at this; exact this.symm
theorem not_below {B : Int} {x : Rat} (h1 : -(B : Rat) ≤ x) (h2 : x ≤ (B : Rat)) : below (B, 1) (((prOf x).1.natAbs : Int), (prOf x).2) = false := by
  unfold below prOf
  simp only [decide_eq_false_iff_not, Int.mul_one]
  have dp : (0 : Rat) < ((x.den : Int) : Rat) := by exact_mod_cast den_pos x
  have e := num_mul' x
  have c1 : x.num ≤ B * (x.den : Int) := by
    have : ((x.num : Int) : Rat) ≤ ((B * (x.den : Int) : Int) : Rat) := by
      rw [e, Rat.intCast_mul]
      have := Rat.mul_le_mul_of_nonneg_left h2 (Rat.le_of_lt dp)
      grind
    exact_mod_cast this
  have c2 : -(B * (x.den : Int)) ≤ x.num := by
    have : ((-(B * (x.den : Int)) : Int) : Rat) ≤ ((x.num : Int) : Rat) := by
      rw [e, Rat.intCast_neg, Rat.intCast_mul]
      have := Rat.mul_le_mul_of_nonneg_left h1 (Rat.le_of_lt dp)
      grind
    exact_mod_cast this
  omega
theorem rowB_ok {f l s q : Int} {r : LRow} (h : RowOk f l s q r) : rowB f l s q (pRow r) = true := by
  have t1 := tw_in h.l; have t2 := tw_in h.s; have t3 := tw_in h.m; have t4 := ls_in h.z
  have n1 := not_below t1.1 t1.2; have n2 := not_below t2.1 t2.2; have n3 := not_below t3.1 t3.2
  have z0 : 0 ≤ r.z.num := by
    have dp : (0 : Rat) < ((r.z.den : Int) : Rat) := by exact_mod_cast den_pos r.z
    have : (0 : Rat) ≤ ((r.z.num : Int) : Rat) := by rw [num_mul']; exact Rat.mul_nonneg t4.1 (Rat.le_of_lt dp)
    exact_mod_cast this
  have n4 : below (glP f) (prOf r.z) = false := by
    unfold below glP prOf
    simp only [decide_eq_false_iff_not]
    have dp : (0 : Rat) < ((r.z.den : Int) : Rat) := by exact_mod_cast den_pos r.z
    have gp : (0 : Rat) < (((hiK f 0 0 0 3).den : Int) : Rat) := by exact_mod_cast den_pos _
    have : ((r.z.num * ((hiK f 0 0 0 3).den : Int) : Int) : Rat) ≤ (((hiK f 0 0 0 3).num * (r.z.den : Int) : Int) : Rat) := by
      rw [Rat.intCast_mul, Rat.intCast_mul, num_mul' r.z, num_mul' (hiK f 0 0 0 3)]
      have h' : r.z ≤ hiK f 0 0 0 3 := t4.2
      have := Rat.mul_le_mul_of_nonneg_left h' (Rat.le_of_lt (Rat.mul_pos dp gp))
      grind
    have : r.z.num * ((hiK f 0 0 0 3).den : Int) ≤ (hiK f 0 0 0 3).num * (r.z.den : Int) := by exact_mod_cast this
    omega
  unfold rowB pRow
  simp only [isF_pr, n1, n2, n3, n4, Bool.not_false, Bool.and_true, Bool.true_and, decide_eq_true_eq]
  exact z0
end DL

namespace DL
open PySem PySem.Spec PyProof.Rows L2
/-! ### dicts -/
/-! ### sizes of any run -/
theorem all_len {U a b f : Int} {gs : List Int} {rs : List LRow} : (allSizes U a b f gs rs).length = rs.length + 1 := by unfold allSizes; simp [iSizes_len]
theorem sizes_run {a b f bits : Int} {gs : List Int} {rs : List LRow} (hh : HB a b f bits) (hg : GsOk 15 gs) (hlen : rs.length + 1 = gs.length) (hr : ∀ r ∈ rs, RunR (unitU f gs) f gs.length 152 r) {t at' : Nat} (ht : t < beats gs at') (h10 : at' < 10) :
    ∃ (row : List Int) (v : Int), (allSizes (unitU f gs) a b f gs rs)[t]? = some row ∧ row[at']? = some v ∧ (v : Rat) = (unitU f gs : Rat) * ((nou gs at' t : Rat) + conv a b f at' t rs) ∧ v.natAbs < 2 ^ 701 ∧ row.length = (if t < rs.length then 10 else 1) := by
  have g1 := hg.two
  have g2 := hg.most
  have hf0 := hh.h.f1; have hf8 := hh.h.f2
  have hUe : unitU f gs = 12 * pw2 f ^ (gs.length + 1) := unit_pow hf0
  have hUb : (unitU f gs).natAbs < 2 ^ (150 - 12) := by rw [hUe]; exact U_bd hf0 hf8 (by omega)
  have hU0 : 0 < unitU f gs := unit_pos hf0
  have bg := gI_bd (B := 600) (by decide) hg.bd 0
  have b0 : (gI gs 0 * unitU f gs).natAbs < 2 ^ (152 + 24 * 0) := lt_up (natAbs_mul_lt (k := 12) (by omega) hUb) (by decide)
  have d0 : pw2 f ^ (gs.length + 1) ∣ gI gs 0 * unitU f gs := Int.dvd_mul_of_dvd_right ⟨12, by rw [hUe, Int.mul_comm]⟩
  have p0 : pcW gs (0 : Nat) = 0 := by unfold pcW; rw [if_neg (by omega)]
  obtain ⟨j1, ⟨dE, j2, j3⟩, j4⟩ := sizes_g (U := unitU f gs) (a := a) (b := b) (f := f) (gs := gs) (n := gs.length) (K := 152) (L := gs.length - 1) hU0 ⟨12, by rw [hUe, Int.mul_comm]⟩ hUb (by decide)
    (by have := hh.a1; have := hh.a2; omega) (by have := hh.b1; have := hh.b2; omega) (fun x hx => by have := hg.bd x hx; omega) (fun t ht => W_next (by omega)) rs 0 (gs.length + 1) z0 (iS0 (unitU f gs) gs) (by omega) (by omega) (by omega) (by decide) (by omega)
    ⟨by show ((gI gs 0 * unitU f gs : Int) : Rat) = _ * ((0 : Rat) + (gI gs (0 : Nat) : Rat)); rw [Rat.intCast_mul]; simp only [Int.natCast_zero]; grind, by rw [p0]; show ((0 : Int) : Rat) = _ * ((0 : Rat) + ((0 : Int) : Rat)); simp only [Rat.intCast_zero]; grind, by rw [p0]; show ((gI gs 0 * unitU f gs : Int) : Rat) = _ * ((0 : Rat) + (gI gs (0 : Nat) : Rat) - ((0 : Int) : Rat)); rw [Rat.intCast_mul]; simp only [Int.natCast_zero, Rat.intCast_zero]; grind⟩
    ⟨d0, ⟨0, by show (0 : Int) = _; simp⟩, d0⟩ ⟨b0, by show (0 : Int).natAbs < _; exact Nat.two_pow_pos _, b0⟩ fun r hx => hr r hx
  unfold allSizes
  by_cases hlt : t < rs.length
  · obtain ⟨row, v, e1, e9, e2, e3, e4⟩ := j1 t at' hlt h10
    refine ⟨row, v, ?_, e2, ?_, lt_up e4 (by decide), by rw [if_pos hlt]; exact e9⟩
    · rw [List.getElem?_append_left (by rw [iSizes_len]; exact hlt)]; exact e1
    · rw [e3, dAt_z0 (by omega)]; simp only [Nat.zero_add]
  · have ha : at' = 0 := by
      unfold beats at ht
      split at ht
      · assumption
      · omega
    subst ha
    have hte : t = rs.length := by
      unfold beats at ht
      rw [if_pos rfl] at ht
      omega
    subst hte
    have bz := gI_bd (B := 600) (by decide) hg.bd ((gs.length : Int) - 1)
    refine ⟨[(iEnd (unitU f gs) a b f gs 0 (iS0 (unitU f gs) gs) rs).x - gI gs ((gs.length : Int) - 1) * unitU f gs], _, by rw [List.getElem?_append_right (by rw [iSizes_len]; omega), iSizes_len]; simp, rfl, ?_, ?_, by rw [if_neg (by omega)]; rfl⟩
    · have n0 : nou gs 0 (rs.length : Nat) = 0 := by unfold nou; rw [if_neg (by decide), if_neg (by omega)]
      have e1 := j2.x
      rw [j3, dAt_z0 (by omega)] at e1
      rw [n0, Rat.intCast_sub, Rat.intCast_mul, e1, show ((0 + rs.length : Nat) : Int) = (gs.length : Int) - 1 by omega, Rat.intCast_zero]
      grind
    · exact lt_up (natAbs_sub_lt j4.x (lt_up (natAbs_mul_lt (k := 12) (by omega) hUb) (by decide))) (by decide)
theorem unit_row {f : Int} {gs : List Int} (h0 : 0 ≤ f) (h8 : f ≤ 8) (hn : gs.length ≤ 15) {r : LRow} (h : ∀ q ∈ [r.l, r.s, r.m, r.z], q = 0 ∨ q = 1) : RunR (unitU f gs) f gs.length 152 r := by
  have hUe : unitU f gs = 12 * pw2 f ^ (gs.length + 1) := unit_pow h0
  have hb : (unitU f gs).natAbs < 2 ^ (150 - 12) := by rw [hUe]; exact U_bd h0 h8 hn
  have key : ∀ q : Rat, q = 0 ∨ q = 1 → q * (unitU f gs : Rat) = (sc (unitU f gs) q : Rat) ∧ pw2 f ^ (gs.length + 1) ∣ sc (unitU f gs) q ∧ (sc (unitU f gs) q).natAbs < 2 ^ 152 := by
    rintro q (rfl | rfl)
    · rw [sc_0]; exact ⟨by simp, ⟨0, by simp⟩, Nat.two_pow_pos _⟩
    · rw [sc_1]; exact ⟨by rw [Rat.one_mul], ⟨12, by rw [hUe, Int.mul_comm]⟩, lt_up hb (by decide)⟩
  have up : ∀ {x : Int}, pw2 f ^ (gs.length + 1) ∣ x → pw2 f ^ gs.length ∣ x := fun hx => Int.dvd_trans (pow_dvd (by omega)) hx
  obtain ⟨l1, l2, l3⟩ := key r.l (h _ (by simp))
  obtain ⟨s1, s2, s3⟩ := key r.s (h _ (by simp))
  obtain ⟨m1, m2, m3⟩ := key r.m (h _ (by simp))
  obtain ⟨z1, z2, z3⟩ := key r.z (h _ (by simp))
  exact ⟨⟨l1, s1, m1, z1⟩, up l2, up s2, m2, up z2, ⟨l3, s3, m3, z3⟩⟩
/-- one row alone -/
def aloneR (n j κ : Nat) : List LRow := List.replicate j zr ++ eK κ :: List.replicate (n - (j + 1)) zr
theorem alone_len {n j κ : Nat} (h : j < n) : (aloneR n j κ).length = n := by unfold aloneR; simp; omega
theorem conv_alone {a b f : Int} (at' κ m : Nat) : ∀ (j t : Nat), conv a b f at' t (List.replicate j zr ++ eK κ :: List.replicate m zr) = if j ≤ t then dA a b f (eK κ) (t - j) at' else 0
  | 0, 0 => by simp [conv]
  | 0, t + 1 => by simp only [List.replicate_zero, List.nil_append, conv, conv_zr, Rat.add_zero, Nat.zero_le, if_true, Nat.sub_zero]
  | j + 1, 0 => by simp only [List.replicate_succ, List.cons_append, conv, dA_zr]; rw [if_neg (by omega)]
  | j + 1, t + 1 => by
    simp only [List.replicate_succ, List.cons_append, conv, dA_zr, Rat.zero_add]
    rw [conv_alone at' κ m j t]
    by_cases h : j ≤ t
    · rw [if_pos h, if_pos (by omega), show t + 1 - (j + 1) = t - j by omega]
    · rw [if_neg h, if_neg (by omega)]
theorem alone_row {n j κ : Nat} : ∀ r ∈ aloneR n j κ, ∀ q ∈ [r.l, r.s, r.m, r.z], q = 0 ∨ q = 1 := by
  intro r hr
  unfold aloneR at hr
  have z : ∀ q ∈ [zr.l, zr.s, zr.m, zr.z], q = 0 ∨ q = 1 := by
    intro q hq; simp only [zr, List.mem_cons, List.not_mem_nil, or_false] at hq; rcases hq with rfl | rfl | rfl | rfl <;> exact .inl rfl
  rcases List.mem_append.mp hr with h | h
  · rw [(List.mem_replicate.mp h).2]; exact z
  · rcases List.mem_cons.mp h with h | h
    · rw [h]; exact eK_01 κ
    · rw [(List.mem_replicate.mp h).2]; exact z
end DL

namespace DL
open PySem PySem.Spec PyProof.Rows L2
/-! ### shares of one row alone (from k39) -/
/-! ### plain -/
def mv (a b f : Int) (at' t j κ : Nat) : Rat := if j ≤ t then dA a b f (eK κ) (t - j) at' else 0
def kyI (ka w j κ : Nat) : List L2.Key := [.inl (ka : Int), .inl (w : Int), .inl (j : Int), .inl (κ : Int)]
theorem kyI_inj {a b c d a' b' c' d' : Nat} (h : kyI a b c d = kyI a' b' c' d') : a = a' ∧ b = b' ∧ c = c' ∧ d = d' := by
  unfold kyI at h
  simp only [List.cons.injEq, Sum.inl.injEq, and_true] at h
  omega
/-- every entry is right -/
def MvA (a b f : Int) (gs : List Int) (kvs : List (List L2.Key × D)) : Prop := ∀ p ∈ kvs, ∃ (ka w j κ : Nat) (v : Int), p = (kyI ka w j κ, .int v) ∧ (v : Rat) = (unitU f gs : Rat) * mv a b f ka w j κ
/-- every entry is there, up to a spot -/
def MvB (gs : List Int) (P : Nat → Nat → Nat → Nat → Prop) (kvs : List (List L2.Key × D)) : Prop := ∀ ka w j κ, ka < 10 → w < beats gs ka → j < gs.length - 1 → κ < 4 → P ka w j κ → ∃ d, valD kvs (kyI ka w j κ) = some d
theorem MvA.put {a b f : Int} {gs : List Int} {kvs : List (List L2.Key × D)} (h : MvA a b f gs kvs) {ka w j κ : Nat} {v : Int} (hv : (v : Rat) = (unitU f gs : Rat) * mv a b f ka w j κ) : MvA a b f gs (putD kvs (kyI ka w j κ) (.int v)) := fun p hp => by
  rcases mem_put hp with rfl | hp
  · exact ⟨ka, w, j, κ, v, rfl, hv⟩
  · exact h p hp
theorem MvB.put {gs : List Int} {P P' : Nat → Nat → Nat → Nat → Prop} {kvs : List (List L2.Key × D)} (h0 : MvB gs P kvs) {ka w j κ : Nat} {d : D} (hp : ∀ x y z u, x < 10 → y < beats gs x → P' x y z u → P x y z u ∨ (x = ka ∧ y = w ∧ z = j ∧ u = κ)) : MvB gs P' (putD kvs (kyI ka w j κ) d) := fun x y z u h1 h2 h3 h4 h5 => by
  rw [valD_put]
  by_cases e : kyI x y z u = kyI ka w j κ
  · rw [if_pos e]; exact ⟨d, rfl⟩
  · rw [if_neg e]
    rcases hp x y z u h1 h2 h5 with h | ⟨rfl, rfl, rfl, rfl⟩
    · exact h0 x y z u h1 h2 h3 h4 h
    · exact absurd rfl e
theorem MvA.val {a b f : Int} {gs : List Int} {kvs : List (List L2.Key × D)} (h : MvA a b f gs kvs) {ka w j κ : Nat} {d : D} (e : valD kvs (kyI ka w j κ) = some d) : ∃ v : Int, d = .int v ∧ (v : Rat) = (unitU f gs : Rat) * mv a b f ka w j κ := by
  obtain ⟨ka', w', j', κ', v, e1, e2⟩ := h _ (valD_mem e)
  simp only [Prod.mk.injEq] at e1
  obtain ⟨h1, h2, h3, h4⟩ := kyI_inj e1.1
  subst h1 h2 h3 h4
  exact ⟨v, e1.2, e2⟩
/-! ### promises -/
def spNgt (ds : List D) (S : DStore) (Q : QE) : Prop := ∃ gs : List Int, ds = [.tup (gs.map D.int)] ∧ 2 ≤ gs.length ∧ gs.length ≤ 100 ∧ Q (.tup ((List.replicate (gs.length - 1) zr).map LRow.D)) S
theorem spNgt_len : ∀ ds S Q, spNgt ds S Q → ds.length = 1 := by rintro _ _ _ ⟨_, rfl, _⟩; rfl
def spAlone (ds : List D) (S : DStore) (Q : QE) : Prop := ∃ (gs : List Int) (j κ : Nat), ds = [.tup (gs.map D.int), .int j, .int κ] ∧ 2 ≤ gs.length ∧ gs.length ≤ 100 ∧ j < gs.length - 1 ∧ κ < 4 ∧ Q (.tup ((aloneR (gs.length - 1) j κ).map LRow.D)) S
theorem spAlone_len : ∀ ds S Q, spAlone ds S Q → ds.length = 3 := by rintro _ _ _ ⟨_, _, _, rfl, _⟩; rfl
def calmD (a b f : Int) (gs : List Int) : D := .lst ((allSizes (unitU f gs) a b f gs (List.replicate (gs.length - 1) zr)).map lstI)
def spShL (ds : List D) (S : DStore) (Q : QE) : Prop := ∃ a b f bits gs, ds = [hndD a b f bits, .tup (gs.map D.int)] ∧ HB a b f bits ∧ GsOk 8 gs ∧ ∀ q kvs S', S'[q]? = some (.dct kvs) → MvA a b f gs kvs → MvB gs (fun _ _ _ _ => True) kvs → kvs.length ≤ 10000 → Kp S S' → Q (.tup [calmD a b f gs, .ref q]) S'
theorem spShL_len : ∀ ds S Q, spShL ds S Q → ds.length = 2 := by rintro _ _ _ ⟨_, _, _, _, _, rfl, _⟩; rfl
theorem slT {S : DStore} {m : Bool} {xs : List D} {lo hi : Option Int} {Q : QE} : slD m S (.tup xs) lo hi Q = Q (.tup (cutD xs lo hi)) S := rfl
theorem rep_one {α : Type} (x : α) : ∀ n : Nat, (List.replicate n [x]).flatten = List.replicate n x
  | 0 => rfl
  | n + 1 => by rw [List.replicate_succ, List.flatten_cons, rep_one x n]; rfl
def ngtC : List CS := [.ret (.bin .Mult false (.tup [(.bin .Mult false (.tup [(.tup [(.con (.int 0)), (.con (.int 1))])]) (.con (.int 4)))]) (.bin .Sub false (.bi .len false [(.var 0)]) (.con (.int 1))))]
theorem ngt_ok {G : Fns} : ∀ ds S Q, spNgt ds S Q → wpSs G ngtC (startD 1 ds) S { nx := fun _ S' => Q .non S', rt := Q } := by
  rintro ds S Q ⟨gs, rfl, h1, h2, hQ⟩
  unfold ngtC
  simp_arith only [List.length_map]
  refine ⟨(fun z => nomatch z), by decide, by decide, by decide, ?_⟩
  (try simp_arith only [List.length_map])
  refine ⟨(fun z => nomatch z), by omega, by omega, by decide, ?_⟩
  rw [rep_one, rep_one, show ((gs.length : Int) - 1).toNat = gs.length - 1 by omega]
  rw [List.map_replicate] at hQ
  exact hQ
theorem eK_D {κ : Nat} (h : κ < 4) : D.tup ((rng 0 4).map fun x => D.tup [.int (if x = (κ : Int) then 1 else 0), .int 1]) = (eK κ).D := by
  match κ, h with
  | 0, _ => rfl
  | 1, _ => rfl
  | 2, _ => rfl
  | 3, _ => rfl
def aloneC (jn : Nat) : List CS := [.asg (.name 3) (.bi .tuple1 false [(.lc false (.tup [(.bi .int1 false [(.cmp .Eq (.var 5) (.var 2))]), (.con (.int 1))]) (.name 5) (.range1 (.con (.int 4))) [] [5])]),
  .asg (.name 4) (.call jn [(.var 0)]),
  .ret (.bin .Add false (.bin .Add false (.sl false (.var 4) .no (.yes (.var 1))) (.tup [(.var 3)])) (.sl false (.var 4) (.yes (.bin .Add false (.var 1) (.con (.int 1)))) .no))]
theorem alone_ok {G : Fns} {jn : Nat} (hn : G.fn jn = spNgt) : ∀ ds S Q, spAlone ds S Q → wpSs G (aloneC jn) (startD 6 ds) S { nx := fun _ S' => Q .non S', rt := Q } := by
  rintro ds S Q ⟨gs, j, κ, rfl, h1, h2, hj, hκ, hQ⟩
  unfold aloneC
  simp_arith only []
  refine ⟨⟨by decide, by decide⟩, ?_⟩
  refine gather_range (fun x => D.tup [.int (if x = (κ : Int) then 1 else 0), .int 1]) (by show 4 ≤ sizeLine; decide) trivial (fun x _ _ N hN => ?_) ?_
  · unfold lcTurn
    (try simp_arith only [])
    exact hN
  · (try simp_arith only [hn])
    rw [eK_D hκ]
    refine ⟨gs, rfl, h1, h2, ?_⟩
    (try simp_arith only [])
    have ej : (j : Int) + 1 = ((j + 1 : Nat) : Int) := by omega
    simp only [slT, cut_to, ej, cut_from]
    (try simp_arith only [])
    have e : List.take j (List.map LRow.D (List.replicate (gs.length - 1) zr)) ++ [(eK κ).D] ++ List.drop (j + 1) (List.map LRow.D (List.replicate (gs.length - 1) zr)) = (aloneR (gs.length - 1) j κ).map LRow.D := by
      unfold aloneR
      rw [List.map_replicate, List.take_replicate, List.drop_replicate, List.map_append, List.map_cons, List.map_replicate, List.map_replicate, Nat.min_eq_left (by omega)]
      simp
    rw [e]
    exact ⟨len_le (by simp; omega), len_le (by simp; omega), hQ⟩
theorem rk20_01 {r : LRow} (h : ∀ q ∈ [r.l, r.s, r.m, r.z], q = 0 ∨ q = 1) : Rk20 r := by
  have k : ∀ q : Rat, q = 0 ∨ q = 1 → Rk 20 q := by
    rintro q (rfl | rfl)
    · exact ⟨by decide, by decide⟩
    · exact ⟨by decide, by decide⟩
  exact ⟨k _ (h _ (by simp)), k _ (h _ (by simp)), k _ (h _ (by simp)), k _ (h _ (by simp))⟩
theorem zr_01 : ∀ q ∈ [zr.l, zr.s, zr.m, zr.z], q = 0 ∨ q = 1 := by
  intro q hq; simp only [zr, List.mem_cons, List.not_mem_nil, or_false] at hq; rcases hq with rfl | rfl | rfl | rfl <;> exact .inl rfl
theorem key4 {x y z u : Nat} : keysOf [D.int (x : Int), .int (y : Int), .int (z : Int), .int (u : Int)] = some (kyI x y z u) := rfl
/-- what the sizes of one row alone tell over those of none -/
theorem alone_v {a b f bits : Int} {gs : List Int} (hh : HB a b f bits) (hg : GsOk 8 gs) {i κ w : Nat} (hi : i < gs.length - 1) {row : List Int} {ka : Nat} {v : Int} (hr : (allSizes (unitU f gs) a b f gs (aloneR (gs.length - 1) i κ))[w]? = some row) (hv : row[ka]? = some v) :
    ka < 10 ∧ w < beats gs ka ∧ ∃ (crow : List Int) (c : Int), (allSizes (unitU f gs) a b f gs (List.replicate (gs.length - 1) zr))[w]? = some crow ∧ crow[ka]? = some c ∧ ((v - c : Int) : Rat) = (unitU f gs : Rat) * mv a b f ka w i κ := by
  have g1 := hg.two
  have g2 := hg.most
  have hf0 := hh.h.f1; have hf8 := hh.h.f2
  have al := alone_len (n := gs.length - 1) (j := i) (κ := κ) hi
  have hw : w < gs.length := by
    have := (List.getElem?_eq_some_iff.mp hr).1
    rw [all_len, al] at this; omega
  have hka := (List.getElem?_eq_some_iff.mp hv).1
  have r1 : ∀ r ∈ aloneR (gs.length - 1) i κ, RunR (unitU f gs) f gs.length 152 r := fun r hr => unit_row hf0 hf8 (by omega) (alone_row r hr)
  have r2 : ∀ r ∈ List.replicate (gs.length - 1) zr, RunR (unitU f gs) f gs.length 152 r := fun r hr => unit_row hf0 hf8 (by omega) (by rw [(List.mem_replicate.mp hr).2]; exact zr_01)
  have b0 : w < beats gs 0 := by unfold beats; rw [if_pos rfl]; exact hw
  obtain ⟨row', v', e1, _, _, _, e5⟩ := sizes_run hh ⟨g1, by omega, hg.bd⟩ (by rw [al]; omega) r1 b0 (by decide)
  rw [hr] at e1; cases e1
  rw [al] at e5
  have hb : ka < 10 ∧ w < beats gs ka := by
    unfold beats
    by_cases hlt : w < gs.length - 1
    · rw [if_pos hlt] at e5; refine ⟨by omega, ?_⟩; split <;> omega
    · rw [if_neg hlt] at e5; have : ka = 0 := by omega
      subst this; exact ⟨by decide, by rw [if_pos rfl]; exact hw⟩
  refine ⟨hb.1, hb.2, ?_⟩
  obtain ⟨ra, va, a1, a2, a3, _, _⟩ := sizes_run hh ⟨g1, by omega, hg.bd⟩ (by rw [al]; omega) r1 hb.2 hb.1
  obtain ⟨rc, vc, c1, c2, c3, _, _⟩ := sizes_run hh ⟨g1, by omega, hg.bd⟩ (by simp; omega) r2 hb.2 hb.1
  rw [hr] at a1; cases a1
  rw [hv] at a2; cases a2
  refine ⟨rc, vc, c1, c2, ?_⟩
  rw [Rat.intCast_sub, a3, c3, conv_zr]
  unfold aloneR mv
  rw [conv_alone]
  grind
theorem alone_rl {a b f bits : Int} {gs : List Int} (hh : HB a b f bits) (hg : GsOk 8 gs) {i κ w : Nat} (hi : i < gs.length - 1) {row : List Int} (hr : (allSizes (unitU f gs) a b f gs (aloneR (gs.length - 1) i κ))[w]? = some row) : row.length = if w < gs.length - 1 then 10 else 1 := by
  have g1 := hg.two
  have g2 := hg.most
  have al := alone_len (n := gs.length - 1) (j := i) (κ := κ) hi
  have hw : w < gs.length := by
    have := (List.getElem?_eq_some_iff.mp hr).1
    rw [all_len, al] at this; omega
  have r1 : ∀ r ∈ aloneR (gs.length - 1) i κ, RunR (unitU f gs) f gs.length 152 r := fun r hr => unit_row hh.h.f1 hh.h.f2 (by omega) (alone_row r hr)
  have b0 : w < beats gs 0 := by unfold beats; rw [if_pos rfl]; exact hw
  obtain ⟨row', v', e1, _, _, _, e5⟩ := sizes_run hh ⟨g1, by omega, hg.bd⟩ (by rw [al]; omega) r1 b0 (by decide)
  rw [hr] at e1; cases e1
  rw [al] at e5; exact e5
def shLC (jz jn ja : Nat) : List CS := [.par2 3 4 (.ix (.call jz [(.var 0), (.var 1), (.call jn [(.var 1)])]) (.con (.int 0))) .dnew,
  .for_ (.name 2) (.range1 (.bin .Sub false (.bi .len false [(.var 1)]) (.con (.int 1)))) [.for_ (.name 5) (.range1 (.con (.int 4))) [.asg (.name 6) (.ix (.call jz [(.var 0), (.var 1), (.call ja [(.var 1), (.var 2), (.var 5)])]) (.con (.int 0))),
    .for_ (.tup [(.name 7), (.name 8)]) (.enum (.var 6)) [.for_ (.tup [(.name 9), (.name 10)]) (.enum (.var 8)) [.asg (.dsub (.var 4) [(.var 9), (.var 7), (.var 2), (.var 5)]) (.bin .Sub false (.var 10) (.ix (.ix (.var 3) (.var 7)) (.var 9)))]]]],
  .ret (.tup [(.var 3), (.var 4)])]
theorem shL_ok {G : Fns} {jz jn ja : Nat} (hz : G.fn jz = spSizes) (hn : G.fn jn = spNgt) (ha : G.fn ja = spAlone) : ∀ ds S Q, spShL ds S Q → wpSs G (shLC jz jn ja) (startD 11 ds) S { nx := fun _ S' => Q .non S', rt := Q } := by
  rintro ds S0 Q ⟨a, b, f, bits, gs, rfl, hh, hg, hQ⟩
  unfold shLC
  have g1 := hg.two
  have g2 := hg.most
  have bd : ∀ x ∈ gs, -1000000000 ≤ x ∧ x ≤ 1000000000 := fun x hx => by have := hg.bd x hx; omega
  refine ss_split 1 (fun ρ S => ∃ q, ρ = [some (hndD a b f bits), some (.tup (gs.map D.int)), none, some (calmD a b f gs), some (.ref q), none, none, none, none, none, none] ∧ S[q]? = some (.dct []) ∧ Kp S0 S ∧ S0.length ≤ q) (fun N hN => ?_) ?_
  · simp_arith only [hn]
    refine ⟨gs, rfl, by omega, by omega, ?_⟩
    (try simp_arith only [hz])
    refine ⟨a, b, f, bits, gs, List.replicate (gs.length - 1) zr, rfl, hh.h, by omega, by omega, by simp, bd, fun r hr => rk20_01 (by rw [(List.mem_replicate.mp hr).2]; exact zr_01), fun S1 k1 => ?_⟩
    (try simp_arith only [])
    exact hN _ _ ⟨S1.length, rfl, by simp, fun j c hj => by rw [List.getElem?_append_left (List.getElem?_eq_some_iff.mp (k1 j c hj)).1]; exact k1 j c hj, k1.len⟩
  rintro ρ S ⟨q, rfl, hq, hK, hql⟩
  have hS0 : ∀ (j : Nat) (c : Cell), S0[j]? = some c → j ≠ q := fun j c hj => by have := (List.getElem?_eq_some_iff.mp hj).1; omega
  (try simp_arith only [List.length_map])
  (repeat (refine And.intro (by first | omega | exact DL.mul_small_left (by omega) (by omega) | exact DL.mul_small_right (by omega) (by omega) | exact DL.div_om (by omega) (by omega) (by omega) | exact DL.cpow1 (by omega) (by omega) | exact ⟨by omega, by omega⟩ | exact DL.len_le (by (try simp only [List.length_map, List.length_append, List.length_cons, List.length_nil]); omega) | exact DL.len_lt (by (try simp only [List.length_map, List.length_append, List.length_cons, List.length_nil]); omega) | trivial | decide) ?_))
  refine walk_range (fun i ρ S' => ∃ (kvs : List (List L2.Key × D)) (r2 r5 r6 r7 r8 r9 r10 : Option D), ρ = [some (hndD a b f bits), some (.tup (gs.map D.int)), r2, some (calmD a b f gs), some (.ref q), r5, r6, r7, r8, r9, r10] ∧ S'[q]? = some (.dct kvs) ∧ Kp S0 S' ∧ MvA a b f gs kvs ∧ MvB gs (fun _ _ j _ => j < i) kvs ∧ kvs.length ≤ 320 * i)
    ⟨[], _, _, _, _, _, _, _, rfl, hq, hK, (fun p hp => nomatch hp), fun ka w j κ _ _ _ _ h => absurd h (by omega), by simp⟩ (fun _ _ _ _ => trivial) (fun i ρ S' hi hp => ?_) (fun ρ S' hp => ?_)
  · obtain ⟨kvs, r2, r5, r6, r7, r8, r9, r10, rfl, hq, hK, hA, hB, hl⟩ := hp
    have hi' : i < gs.length - 1 := by omega
    unfold DL.forTurn
    (try simp_arith only [Int.zero_add])
    (repeat (refine And.intro (by first | omega | exact DL.mul_small_left (by omega) (by omega) | exact DL.mul_small_right (by omega) (by omega) | exact DL.div_om (by omega) (by omega) (by omega) | exact DL.cpow1 (by omega) (by omega) | exact ⟨by omega, by omega⟩ | exact DL.len_le (by (try simp only [List.length_map, List.length_append, List.length_cons, List.length_nil]); omega) | exact DL.len_lt (by (try simp only [List.length_map, List.length_append, List.length_cons, List.length_nil]); omega) | trivial | decide) ?_))
    refine walk_range (fun κ ρ S' => ∃ (kvs : List (List L2.Key × D)) (r5 r6 r7 r8 r9 r10 : Option D), ρ = [some (hndD a b f bits), some (.tup (gs.map D.int)), some (.int i), some (calmD a b f gs), some (.ref q), r5, r6, r7, r8, r9, r10] ∧ S'[q]? = some (.dct kvs) ∧ Kp S0 S' ∧ MvA a b f gs kvs ∧ MvB gs (fun _ _ j κ' => j < i ∨ (j = i ∧ κ' < κ)) kvs ∧ kvs.length ≤ 320 * i + 80 * κ)
      ⟨kvs, _, _, _, _, _, _, rfl, hq, hK, hA, fun ka w j κ h1 h2 h3 h4 h => hB ka w j κ h1 h2 h3 h4 (by omega), by omega⟩ (fun _ _ _ _ => trivial) (fun κ ρ S' hκ hp => ?_) (fun ρ S' hp => ?_)
    · obtain ⟨kvs, r5, r6, r7, r8, r9, r10, rfl, hq, hK, hA, hB, hl⟩ := hp
      have hκ' : κ < 4 := by omega
      have al := alone_len (n := gs.length - 1) (j := i) (κ := κ) hi'
      unfold DL.forTurn
      (try simp_arith only [ha, Int.zero_add])
      refine ⟨gs, i, κ, rfl, by omega, by omega, hi', hκ', ?_⟩
      (try simp_arith only [hz])
      refine ⟨a, b, f, bits, gs, aloneR (gs.length - 1) i κ, rfl, hh.h, by omega, by omega, by omega, bd, fun r hr => rk20_01 (alone_row r hr), fun S2 k2 => ?_⟩
      replace hK : Kp S0 S2 := hK.trans k2
      replace hq := k2 _ _ hq
      (try simp_arith only [])
      refine walk_list (fun w ρ S' => ∃ (kvs : List (List L2.Key × D)) (r6 r7 r8 r9 r10 : Option D), ρ = [some (hndD a b f bits), some (.tup (gs.map D.int)), some (.int i), some (calmD a b f gs), some (.ref q), some (.int κ), r6, r7, r8, r9, r10] ∧ S'[q]? = some (.dct kvs) ∧ Kp S0 S' ∧ MvA a b f gs kvs ∧ MvB gs (fun _ w' j κ' => j < i ∨ (j = i ∧ (κ' < κ ∨ (κ' = κ ∧ w' < w)))) kvs ∧ kvs.length ≤ 320 * i + 80 * κ + 10 * w)
        ⟨kvs, _, _, _, _, _, rfl, hq, hK, hA, fun ka w j κ h1 h2 h3 h4 h => hB ka w j κ h1 h2 h3 h4 (by omega), by omega⟩ (fun _ _ _ _ => trivial) (fun w x ρ S' hx hp => ?_) (fun ρ S' hp => ?_)
      · obtain ⟨kvs, r6, r7, r8, r9, r10, rfl, hq, hK, hA, hB, hl⟩ := hp
        have hw := (List.getElem?_eq_some_iff.mp hx).1
        rw [enum_len, List.length_map] at hw
        obtain ⟨row, hrow⟩ : ∃ row, (allSizes (unitU f gs) a b f gs (aloneR (gs.length - 1) i κ))[w]? = some row := ⟨_, List.getElem?_eq_getElem hw⟩
        rw [enum_get (x := lstI row) (by rw [List.getElem?_map, hrow]; rfl)] at hx
        cases hx
        unfold DL.forTurn lstI
        (try simp_arith only [])
        refine ⟨trivial, walk_list (fun ka ρ S' => ∃ (kvs : List (List L2.Key × D)) (r6 r8 r9 r10 : Option D), ρ = [some (hndD a b f bits), some (.tup (gs.map D.int)), some (.int i), some (calmD a b f gs), some (.ref q), some (.int κ), r6, some (.int w), r8, r9, r10] ∧ S'[q]? = some (.dct kvs) ∧ Kp S0 S' ∧ MvA a b f gs kvs ∧ MvB gs (fun ka' w' j κ' => j < i ∨ (j = i ∧ (κ' < κ ∨ (κ' = κ ∧ (w' < w ∨ (w' = w ∧ ka' < ka)))))) kvs ∧ kvs.length ≤ 320 * i + 80 * κ + 10 * w + ka)
          ⟨kvs, _, _, _, _, rfl, hq, hK, hA, fun ka w j κ h1 h2 h3 h4 h => hB ka w j κ h1 h2 h3 h4 (by omega), by omega⟩ (fun _ _ _ _ => trivial) (fun ka x ρ S' hx hp => ?_) (fun ρ S' hp => ?_)⟩
        · obtain ⟨kvs, r6, r8, r9, r10, rfl, hq, hK, hA, hB, hl⟩ := hp
          have hka := (List.getElem?_eq_some_iff.mp hx).1
          rw [enum_len, List.length_map] at hka
          obtain ⟨v, hv⟩ : ∃ v, row[ka]? = some v := ⟨_, List.getElem?_eq_getElem hka⟩
          rw [enum_get (x := .int v) (by rw [List.getElem?_map, hv]; rfl)] at hx
          cases hx
          obtain ⟨k10, wb, crow, c, hc1, hc2, hc3⟩ := alone_v hh hg hi' hrow hv
          have w7 : w < 8 := by unfold beats at wb; split at wb <;> omega
          unfold DL.forTurn calmD
          (try simp_arith only [at_map hc1])
          unfold lstI
          (try simp_arith only [at_map hc2])
          refine ⟨trivial, q, kvs, kyI ka w i κ, rfl, hq, rfl, Nat.lt_of_le_of_lt (show kvs.length ≤ 10000 by omega) (by decide), ?_⟩
          refine ⟨_, _, _, _, _, rfl, by rw [List.getElem?_set_self (List.getElem?_eq_some_iff.mp hq).1], fun j c hj => ?_, hA.put hc3, hB.put fun x y z u _ _ h => by omega, Nat.le_trans len_put (by omega)⟩
          rw [List.getElem?_set_ne (fun z => hS0 j c hj z.symm)]; exact hK j c hj
        · obtain ⟨kvs, r6, r8, r9, r10, rfl, hq, hK, hA, hB, hl⟩ := hp
          simp only [s_nilA]
          have rl : row.length ≤ 10 ∧ ∀ ka, ka < 10 → w < beats gs ka → ka < row.length := by
            rw [alone_rl hh hg hi' hrow]
            refine ⟨by split <;> omega, fun ka h1 h2 => ?_⟩
            unfold beats at h2
            split <;> split at h2 <;> omega
          rw [enum_len, List.length_map] at hB hl
          exact ⟨kvs, _, _, _, _, _, rfl, hq, hK, hA, fun ka w' j κ' h1 h2 h3 h4 h => hB ka w' j κ' h1 h2 h3 h4 (by
            by_cases e : w' = w
            · subst e; have := rl.2 ka h1 h2; omega
            · omega), by omega⟩
      · obtain ⟨kvs, r6, r7, r8, r9, r10, rfl, hq, hK, hA, hB, hl⟩ := hp
        simp only [s_nilA]
        rw [enum_len, List.length_map, all_len, al] at hB hl
        exact ⟨kvs, _, _, _, _, _, _, rfl, hq, hK, hA, fun ka w' j κ' h1 h2 h3 h4 h => hB ka w' j κ' h1 h2 h3 h4 (by
          have : w' < gs.length := by unfold beats at h2; split at h2 <;> omega
          omega), by omega⟩
    · obtain ⟨kvs, r5, r6, r7, r8, r9, r10, rfl, hq, hK, hA, hB, hl⟩ := hp
      simp only [s_nilA]
      replace hB : MvB gs (fun _ _ j κ' => j < i ∨ (j = i ∧ κ' < 4)) kvs := hB
      replace hl : kvs.length ≤ 320 * i + 80 * 4 := hl
      exact ⟨kvs, _, _, _, _, _, _, _, rfl, hq, hK, hA, fun ka w' j κ' h1 h2 h3 h4 h => hB ka w' j κ' h1 h2 h3 h4 (by omega), by omega⟩
  · obtain ⟨kvs, r2, r5, r6, r7, r8, r9, r10, rfl, hq, hK, hA, hB, hl⟩ := hp
    (try simp_arith only [])
    refine hQ q kvs S' hq hA (fun ka w j κ h1 h2 h3 h4 _ => hB ka w j κ h1 h2 h3 h4 (by omega)) (by omega) hK
end DL

namespace DL
open PySem PySem.Spec PyProof.Rows L2
/-! ### the ends of all sizes, by shares -/
section
variable (a b f l s q : Int)
def tLo (ka w j κ : Nat) : Rat := mn (mv a b f ka w j κ * loK l s q κ) (mv a b f ka w j κ * hiK f l s q κ)
def tHi (ka w j κ : Nat) : Rat := mx (mv a b f ka w j κ * loK l s q κ) (mv a b f ka w j κ * hiK f l s q κ)
def kLo (ka w j : Nat) : Nat → Rat
  | 0 => 0
  | κ + 1 => kLo ka w j κ + tLo a b f l s q ka w j κ
def kHi (ka w j : Nat) : Nat → Rat
  | 0 => 0
  | κ + 1 => kHi ka w j κ + tHi a b f l s q ka w j κ
def pLo (ka w : Nat) : Nat → Rat
  | 0 => 0
  | j + 1 => pLo ka w j + kLo a b f l s q ka w j 4
def pHi (ka w : Nat) : Nat → Rat
  | 0 => 0
  | j + 1 => pHi ka w j + kHi a b f l s q ka w j 4
end
theorem kLo4 {a b f l s q : Int} {ka w j : Nat} : kLo a b f l s q ka w j 4 = if j ≤ w then dn a b f l s q (w - j) ka else 0 := by
  simp only [kLo, tLo, mv]
  split
  · simp only [dn, dn1]; grind
  · simp only [Rat.zero_mul, mn]; grind
theorem kHi4 {a b f l s q : Int} {ka w j : Nat} : kHi a b f l s q ka w j 4 = if j ≤ w then up a b f l s q (w - j) ka else 0 := by
  simp only [kHi, tHi, mv]
  split
  · simp only [up, up1]; grind
  · simp only [Rat.zero_mul, mx]; grind
theorem pLo_s {a b f l s q : Int} {ka w : Nat} : ∀ J, J ≤ w + 1 → pLo a b f l s q ka w J + sLo a b f l s q ka (w + 1 - J) = sLo a b f l s q ka (w + 1)
  | 0, _ => by simp only [pLo, Nat.sub_zero, Rat.zero_add]
  | J + 1, h => by
    have := pLo_s (a := a) (b := b) (f := f) (l := l) (s := s) (q := q) (ka := ka) (w := w) J (by omega)
    rw [← this, pLo, kLo4, if_pos (by omega), show w + 1 - J = (w - J) + 1 by omega, show w + 1 - (J + 1) = w - J by omega, sLo]
    grind
theorem pHi_s {a b f l s q : Int} {ka w : Nat} : ∀ J, J ≤ w + 1 → pHi a b f l s q ka w J + sHi a b f l s q ka (w + 1 - J) = sHi a b f l s q ka (w + 1)
  | 0, _ => by simp only [pHi, Nat.sub_zero, Rat.zero_add]
  | J + 1, h => by
    have := pHi_s (a := a) (b := b) (f := f) (l := l) (s := s) (q := q) (ka := ka) (w := w) J (by omega)
    rw [← this, pHi, kHi4, if_pos (by omega), show w + 1 - J = (w - J) + 1 by omega, show w + 1 - (J + 1) = w - J by omega, sHi]
    grind
theorem pLo_late {a b f l s q : Int} {ka w : Nat} : ∀ i, pLo a b f l s q ka w (w + 1 + i) = sLo a b f l s q ka (w + 1)
  | 0 => by have := pLo_s (a := a) (b := b) (f := f) (l := l) (s := s) (q := q) (ka := ka) (w := w) (w + 1) (Nat.le_refl _); rw [Nat.sub_self, sLo, Rat.add_zero] at this; exact this
  | i + 1 => by rw [← Nat.add_assoc, pLo, kLo4, if_neg (by omega), Rat.add_zero]; exact pLo_late i
theorem pHi_late {a b f l s q : Int} {ka w : Nat} : ∀ i, pHi a b f l s q ka w (w + 1 + i) = sHi a b f l s q ka (w + 1)
  | 0 => by have := pHi_s (a := a) (b := b) (f := f) (l := l) (s := s) (q := q) (ka := ka) (w := w) (w + 1) (Nat.le_refl _); rw [Nat.sub_self, sHi, Rat.add_zero] at this; exact this
  | i + 1 => by rw [← Nat.add_assoc, pHi, kHi4, if_neg (by omega), Rat.add_zero]; exact pHi_late i
theorem p_all {a b f l s q : Int} {gs : List Int} {ka w : Nat} (h2 : 2 ≤ gs.length) (hw : w < beats gs ka) : pLo a b f l s q ka w (gs.length - 1) = sLo a b f l s q ka (w + 1) ∧ pHi a b f l s q ka w (gs.length - 1) = sHi a b f l s q ka (w + 1) := by
  by_cases h : w + 1 ≤ gs.length - 1
  · rw [show gs.length - 1 = w + 1 + (gs.length - 1 - (w + 1)) by omega]
    exact ⟨pLo_late _, pHi_late _⟩
  · have hk : ka = 0 := by
      unfold beats at hw
      split at hw
      · assumption
      · omega
    subst hk
    have e : gs.length - 1 = w := by unfold beats at hw; rw [if_pos rfl] at hw; omega
    rw [e]
    have x := pLo_s (a := a) (b := b) (f := f) (l := l) (s := s) (q := q) (ka := 0) (w := w) w (by omega)
    have y := pHi_s (a := a) (b := b) (f := f) (l := l) (s := s) (q := q) (ka := 0) (w := w) w (by omega)
    rw [show w + 1 - w = 0 + 1 by omega, sLo, sLo, dn_00, Rat.add_zero, Rat.add_zero] at x
    rw [show w + 1 - w = 0 + 1 by omega, sHi, sHi, up_00, Rat.add_zero, Rat.add_zero] at y
    exact ⟨x, y⟩
theorem calm_v {a b f bits : Int} {gs : List Int} (hh : HB a b f bits) (hg : GsOk 8 gs) {w : Nat} {row : List Int} (hr : (allSizes (unitU f gs) a b f gs (List.replicate (gs.length - 1) zr))[w]? = some row) :
    w < gs.length ∧ row.length = (if w < gs.length - 1 then 10 else 1) ∧ ∀ (ka : Nat) (c : Int), row[ka]? = some c → ka < 10 ∧ w < beats gs ka ∧ (c : Rat) = (unitU f gs : Rat) * (nou gs ka w : Rat) ∧ c.natAbs < 2 ^ 701 := by
  have g1 := hg.two
  have g2 := hg.most
  have hf0 := hh.h.f1; have hf8 := hh.h.f2
  have hw : w < gs.length := by
    have := (List.getElem?_eq_some_iff.mp hr).1
    rw [all_len, List.length_replicate] at this; omega
  have r2 : ∀ r ∈ List.replicate (gs.length - 1) zr, RunR (unitU f gs) f gs.length 152 r := fun r hr => unit_row hf0 hf8 (by omega) (by rw [(List.mem_replicate.mp hr).2]; exact zr_01)
  have b0 : w < beats gs 0 := by unfold beats; rw [if_pos rfl]; exact hw
  obtain ⟨row', v', e1, _, _, _, e5⟩ := sizes_run hh ⟨g1, by omega, hg.bd⟩ (by simp; omega) r2 b0 (by decide)
  rw [hr] at e1; cases e1
  rw [List.length_replicate] at e5
  refine ⟨hw, e5, fun ka c hv => ?_⟩
  have hka := (List.getElem?_eq_some_iff.mp hv).1
  have hb : ka < 10 ∧ w < beats gs ka := by
    unfold beats
    by_cases hlt : w < gs.length - 1
    · rw [if_pos hlt] at e5; refine ⟨by omega, ?_⟩; split <;> omega
    · rw [if_neg hlt] at e5; have : ka = 0 := by omega
      subst this; exact ⟨by decide, by rw [if_pos rfl]; exact hw⟩
  obtain ⟨rc, vc, c1, c2, c3, c4, _⟩ := sizes_run hh ⟨g1, by omega, hg.bd⟩ (by simp; omega) r2 hb.2 hb.1
  rw [hr] at c1; cases c1
  rw [hv] at c2; cases c2
  exact ⟨hb.1, hb.2, by rw [c3, conv_zr, Rat.add_zero], c4⟩
/-! ### what the dict of ends holds -/
def kyR (ka w : Nat) : List L2.Key := [.inl (ka : Int), .inl (w : Int)]
theorem kyR_inj {a b a' b' : Nat} (h : kyR a b = kyR a' b') : a = a' ∧ b = b' := by
  unfold kyR at h
  simp only [List.cons.injEq, Sum.inl.injEq, and_true] at h
  omega
structure RcV (a b f l s q : Int) (gs : List Int) (ka w : Nat) (lo hi : Int) : Prop where
  k10 : ka < 10
  wb : w < beats gs ka
  lo : (lo : Rat) = ((unitU f gs * pw2 f : Int) : Rat) * wLo a b f l s q gs ka w
  hi : (hi : Rat) = ((unitU f gs * pw2 f : Int) : Rat) * wHi a b f l s q gs ka w
def RcA (a b f l s q : Int) (gs : List Int) (kvs : List (List L2.Key × D)) : Prop := ∀ p ∈ kvs, ∃ (ka w : Nat) (lo hi : Int), p = (kyR ka w, .tup [.int lo, .int hi]) ∧ RcV a b f l s q gs ka w lo hi
def RcB (gs : List Int) (P : Nat → Nat → Prop) (kvs : List (List L2.Key × D)) : Prop := ∀ ka w, ka < 10 → w < beats gs ka → P ka w → ∃ d, valD kvs (kyR ka w) = some d
theorem RcA.put {a b f l s q : Int} {gs : List Int} {kvs : List (List L2.Key × D)} (h : RcA a b f l s q gs kvs) {ka w : Nat} {lo hi : Int} (hv : RcV a b f l s q gs ka w lo hi) : RcA a b f l s q gs (putD kvs (kyR ka w) (.tup [.int lo, .int hi])) := fun p hp => by
  rcases mem_put hp with rfl | hp
  · exact ⟨ka, w, lo, hi, rfl, hv⟩
  · exact h p hp
theorem RcB.put {gs : List Int} {P P' : Nat → Nat → Prop} {kvs : List (List L2.Key × D)} (h0 : RcB gs P kvs) {ka w : Nat} {d : D} (hp : ∀ x y, x < 10 → y < beats gs x → P' x y → P x y ∨ (x = ka ∧ y = w)) : RcB gs P' (putD kvs (kyR ka w) d) := fun x y h1 h2 h5 => by
  rw [valD_put]
  by_cases e : kyR x y = kyR ka w
  · rw [if_pos e]; exact ⟨d, rfl⟩
  · rw [if_neg e]
    rcases hp x y h1 h2 h5 with h | ⟨rfl, rfl⟩
    · exact h0 x y h1 h2 h
    · exact absurd rfl e
theorem RcA.val {a b f l s q : Int} {gs : List Int} {kvs : List (List L2.Key × D)} (h : RcA a b f l s q gs kvs) {ka w : Nat} {d : D} (e : valD kvs (kyR ka w) = some d) : ∃ lo hi : Int, d = .tup [.int lo, .int hi] ∧ RcV a b f l s q gs ka w lo hi := by
  obtain ⟨ka', w', lo, hi, e1, e2⟩ := h _ (valD_mem e)
  simp only [Prod.mk.injEq] at e1
  obtain ⟨h1, h2⟩ := kyR_inj e1.1
  subst h1 h2
  exact ⟨lo, hi, e1.2, e2⟩
theorem min1_L {a b : Int} {m : Bool} {S : DStore} {Q : QE} (h : Q (.int (if b < a then b else a)) S) : biD .min1 m [.lst [.int a, .int b]] S Q :=
  ⟨_, [a, b], _, rfl, rfl, by split <;> simp, by intro y hy; simp at hy; split <;> omega, h⟩
theorem max1_L {a b : Int} {m : Bool} {S : DStore} {Q : QE} (h : Q (.int (if b > a then b else a)) S) : biD .max1 m [.lst [.int a, .int b]] S Q :=
  ⟨_, [a, b], _, rfl, rfl, by split <;> simp, by intro y hy; simp at hy; split <;> omega, h⟩
/-- the reach of a setting lies at q -/
structure Rch (a b f bits l s u : Int) (gs : List Int) (q : Nat) (S : DStore) (kvs : List (List L2.Key × D)) : Prop where
  at' : S[q]? = some (.dct kvs)
  a : RcA a b f l s u gs kvs
  b : RcB gs (fun _ _ => True) kvs
  len : kvs.length ≤ 1000
def endsLC (js ju : Nat) : List CS := [.asg (.tup [(.name 4), (.name 5)]) (.call js [(.var 0), (.var 2)]),
  .asg (.tup [(.name 6), (.name 7)]) (.tup [(.bin .LShift false (.con (.int 1)) (.ix (.var 0) (.con (.int 2)))), .dnew]),
  .asg (.name 3) (.bin .Add false (.lc false (.tup [(.bin .Sub false (.con (.int 0)) (.bin .Mult false (.var 13) (.var 6))), (.bin .Mult false (.var 13) (.var 6))]) (.name 13) (.seq (.var 1)) [] [13]) (.lst false [(.tup [(.con (.int 0)), (.bin .Sub false (.var 6) (.con (.int 1)))])])),
  .for_ (.tup [(.name 8), (.name 9)]) (.enum (.var 4)) [.for_ (.tup [(.name 10), (.name 11)]) (.enum (.var 9)) [.par2 14 15 (.bin .Mult false (.var 11) (.var 6)) (.bin .Mult false (.var 11) (.var 6)),
    .for_ (.name 12) (.range1 (.bin .Sub false (.bi .len false [(.var 2)]) (.con (.int 1)))) [.for_ (.tup [(.name 16), (.name 17)]) (.enum (.var 3)) [.setLc 18 (.lc false (.bin .Mult false (.ix (.var 5) (.tup [(.var 10), (.var 8), (.var 12), (.var 16)])) (.var 19)) (.name 19) (.seq (.var 17)) [] [19]),
    .par2 14 15 (.bin .Add false (.var 14) (.bi .min1 false [(.var 18)])) (.bin .Add false (.var 15) (.bi .max1 false [(.var 18)]))]],
    .asg (.dsub (.var 7) [(.var 10), (.var 8)]) (.tup [(.var 14), (.var 15)])]],
  .ret (.tup [(.var 7), (.bin .Mult false (.call ju [(.var 0), (.var 2)]) (.var 6))])]
def spEndsL (ds : List D) (S : DStore) (Q : QE) : Prop := ∃ a b f bits l s u gs, ds = [hndD a b f bits, letsD l s u, .tup (gs.map D.int)] ∧ HB a b f bits ∧ LB l s u ∧ GsOk 8 gs ∧ ∀ q kvs S', Rch a b f bits l s u gs q S' kvs → Kp S S' → Q (.tup [.ref q, .int (unitU f gs * pw2 f)]) S'
theorem spEndsL_len : ∀ ds S Q, spEndsL ds S Q → ds.length = 3 := by rintro _ _ _ ⟨_, _, _, _, _, _, _, _, rfl, _⟩; rfl
theorem endsL_bd {f l s q : Int} (hl : LB l s q) (f8 : f ≤ 8) {κ : Nat} {lo hi : Int} (he : (endsL l s q (pw2 f))[κ]? = some (lo, hi)) : lo.natAbs < 2 ^ 20 ∧ hi.natAbs < 2 ^ 20 := by
  have h1 := pw2_pos f
  have h2 := pw2_le (f := f) (k := 8) (by omega)
  have := hl.l0; have := hl.l1; have := hl.s0; have := hl.s1; have := hl.q0; have := hl.q1
  have bl := mul_bd (a := l) (b := pw2 f) (A := 1000) (B := 256) (by omega) (by omega) (by omega) (by omega)
  have bs := mul_bd (a := s) (b := pw2 f) (A := 1000) (B := 256) (by omega) (by omega) (by omega) (by omega)
  have bq := mul_bd (a := q) (b := pw2 f) (A := 1000) (B := 256) (by omega) (by omega) (by omega) (by omega)
  have bl' : -l * pw2 f = -(l * pw2 f) := Int.neg_mul ..
  have bs' : -s * pw2 f = -(s * pw2 f) := Int.neg_mul ..
  have bq' : -q * pw2 f = -(q * pw2 f) := Int.neg_mul ..
  unfold endsL at he
  match κ, he with
  | 0, he => cases he; omega
  | 1, he => cases he; omega
  | 2, he => cases he; omega
  | 3, he => cases he; omega
theorem endsL_ok {G : Fns} {js ju : Nat} (hs : G.fn js = spShL) (hu : G.fn ju = spUnit) : ∀ ds S Q, spEndsL ds S Q → wpSs G (endsLC js ju) (startD 20 ds) S { nx := fun _ S' => Q .non S', rt := Q } := by
  rintro ds S0 Q ⟨a, b, f, bits, l, s, u, gs, rfl, hh, hl, hg, hQ⟩
  have g1 := hg.two
  have g2 := hg.most
  have hf0 := hh.h.f1; have hf8 := hh.h.f2
  have hw1 := pw2_pos f
  have hw2 := pw2_le (f := f) (k := 8) (by omega)
  have U0 := unit_pos (f := f) (gs := gs) hf0
  have := hl.l0; have := hl.l1; have := hl.s0; have := hl.s1; have := hl.q0; have := hl.q1
  refine ss_split 3 (fun ρ S => ∃ qm q mvs, ρ = [some (hndD a b f bits), some (letsD l s u), some (.tup (gs.map D.int)), some (.lst ((endsL l s u (pw2 f)).map prD)), some (calmD a b f gs), some (.ref qm), some (.int (pw2 f)), some (.ref q), none, none, none, none, none, none, none, none, none, none, none, none] ∧ S[q]? = some (.dct []) ∧ S[qm]? = some (.dct mvs) ∧ MvA a b f gs mvs ∧ MvB gs (fun _ _ _ _ => True) mvs ∧ Kp S0 S ∧ S0.length ≤ q ∧ qm ≠ q) (fun N hN => ?_) ?_
  · show wpSs G [_, _, _] _ _ _
    simp_arith only [hs]
    refine ⟨a, b, f, bits, gs, rfl, hh, hg, fun qm mvs S1 hqm hA hB hlen k1 => ?_⟩
    have qlt := (List.getElem?_eq_some_iff.mp hqm).1
    unfold hndD letsD
    (try simp_arith only [pw2_one])
    refine ⟨trivial, cpow1 (by omega) (by omega), trivial, gather_run (by show 3 ≤ sizeLine; decide) ?_⟩
    simp only [gW, DL.lcTurn]
    refine ⟨by simp, ?_⟩
    (try simp_arith only [])
    (repeat (refine And.intro (by first | omega | exact DL.mul_small_left (by omega) (by omega) | exact DL.mul_small_right (by omega) (by omega) | exact DL.div_om (by omega) (by omega) (by omega) | exact DL.cpow1 (by omega) (by omega) | exact ⟨by omega, by omega⟩ | exact DL.len_le (by (try simp only [List.length_map, List.length_append, List.length_cons, List.length_nil]); omega) | exact DL.len_lt (by (try simp only [List.length_map, List.length_append, List.length_cons, List.length_nil]); omega) | trivial | decide) ?_))
    have e1 : (0 : Int) - l * pw2 f = -l * pw2 f := by rw [Int.neg_mul]; omega
    have e2 : (0 : Int) - s * pw2 f = -s * pw2 f := by rw [Int.neg_mul]; omega
    have e3 : (0 : Int) - u * pw2 f = -u * pw2 f := by rw [Int.neg_mul]; omega
    rw [e1, e2, e3]
    refine hN _ _ ⟨qm, S1.length, mvs, rfl, by simp, ?_, hA, hB, fun j c hj => ?_, k1.len, by omega⟩
    · rw [List.getElem?_append_left qlt]; exact hqm
    · rw [List.getElem?_append_left (List.getElem?_eq_some_iff.mp (k1 j c hj)).1]; exact k1 j c hj
  rintro ρ S ⟨qm, q, mvs, rfl, hq, hqm, hA, hB, hK, hql, hne⟩
  have hS0 : ∀ (j : Nat) (c : Cell), S0[j]? = some c → j ≠ q := fun j c hj => by have := (List.getElem?_eq_some_iff.mp hj).1; omega
  show wpSs G [_, _] _ _ _
  have cD : calmD a b f gs = .lst ((allSizes (unitU f gs) a b f gs (List.replicate (gs.length - 1) zr)).map lstI) := rfl
  (try simp_arith only [cD])
  refine walk_list (fun w ρ S' => ∃ (kvs : List (List L2.Key × D)) (r8 r9 r10 r11 r12 r13 r14 r15 r16 r17 r18 r19 : Option D), ρ = [some (hndD a b f bits), some (letsD l s u), some (.tup (gs.map D.int)), some (.lst ((endsL l s u (pw2 f)).map prD)), some (calmD a b f gs), some (.ref qm), some (.int (pw2 f)), some (.ref q), r8, r9, r10, r11, r12, r13, r14, r15, r16, r17, r18, r19] ∧ S'[q]? = some (.dct kvs) ∧ S'[qm]? = some (.dct mvs) ∧ Kp S0 S' ∧ RcA a b f l s u gs kvs ∧ RcB gs (fun _ w' => w' < w) kvs ∧ kvs.length ≤ 10 * w)
    ⟨[], _, _, _, _, _, _, _, _, _, _, _, _, rfl, hq, hqm, hK, (fun p hp => nomatch hp), fun ka w _ _ h => absurd h (by omega), by simp⟩ (fun _ _ _ _ => trivial) (fun w x ρ S' hx hp => ?_) (fun ρ S' hp => ?_)
  · obtain ⟨kvs, r8, r9, r10, r11, r12, r13, r14, r15, r16, r17, r18, r19, rfl, hq, hqm, hK, hRA, hRB, hl'⟩ := hp
    have hw := (List.getElem?_eq_some_iff.mp hx).1
    rw [enum_len, List.length_map] at hw
    obtain ⟨row, hrow⟩ : ∃ row, (allSizes (unitU f gs) a b f gs (List.replicate (gs.length - 1) zr))[w]? = some row := ⟨_, List.getElem?_eq_getElem hw⟩
    rw [enum_get (x := lstI row) (by rw [List.getElem?_map, hrow]; rfl)] at hx
    cases hx
    obtain ⟨wl, rl, cv⟩ := calm_v hh hg hrow
    unfold DL.forTurn lstI
    (try simp_arith only [])
    refine ⟨trivial, walk_list (fun ka ρ S' => ∃ (kvs : List (List L2.Key × D)) (r9 r10 r11 r12 r13 r14 r15 r16 r17 r18 r19 : Option D), ρ = [some (hndD a b f bits), some (letsD l s u), some (.tup (gs.map D.int)), some (.lst ((endsL l s u (pw2 f)).map prD)), some (calmD a b f gs), some (.ref qm), some (.int (pw2 f)), some (.ref q), some (.int w), r9, r10, r11, r12, r13, r14, r15, r16, r17, r18, r19] ∧ S'[q]? = some (.dct kvs) ∧ S'[qm]? = some (.dct mvs) ∧ Kp S0 S' ∧ RcA a b f l s u gs kvs ∧ RcB gs (fun ka' w' => w' < w ∨ (w' = w ∧ ka' < ka)) kvs ∧ kvs.length ≤ 10 * w + ka)
      ⟨kvs, _, _, _, _, _, _, _, _, _, _, _, rfl, hq, hqm, hK, hRA, fun ka w h1 h2 h => hRB ka w h1 h2 (by omega), by omega⟩ (fun _ _ _ _ => trivial) (fun ka x ρ S' hx hp => ?_) (fun ρ S' hp => ?_)⟩
    · obtain ⟨kvs, r9, r10, r11, r12, r13, r14, r15, r16, r17, r18, r19, rfl, hq, hqm, hK, hRA, hRB, hl'⟩ := hp
      have hka := (List.getElem?_eq_some_iff.mp hx).1
      rw [enum_len, List.length_map] at hka
      obtain ⟨c, hc⟩ : ∃ c, row[ka]? = some c := ⟨_, List.getElem?_eq_getElem hka⟩
      rw [enum_get (x := .int c) (by rw [List.getElem?_map, hc]; rfl)] at hx
      cases hx
      obtain ⟨k10, wb, cE, _⟩ := cv ka c hc
      have hdm : dctOf S' qm = some mvs := by unfold dctOf; rw [hqm]
      unfold DL.forTurn
      (try simp_arith only [List.length_map])
      refine ⟨trivial, mul_small_right (by omega) (by omega), mul_small_right (by omega) (by omega), ⟨by omega, by omega⟩, ?_⟩
      refine walk_range (fun j ρ S2 => ∃ (lo hi : Int) (r12 r13 r16 r17 r18 r19 : Option D), ρ = [some (hndD a b f bits), some (letsD l s u), some (.tup (gs.map D.int)), some (.lst ((endsL l s u (pw2 f)).map prD)), some (calmD a b f gs), some (.ref qm), some (.int (pw2 f)), some (.ref q), some (.int w), r9, some (.int ka), some (.int c), r12, r13, some (.int lo), some (.int hi), r16, r17, r18, r19] ∧ S2 = S' ∧ (lo : Rat) = ((unitU f gs * pw2 f : Int) : Rat) * ((nou gs ka w : Rat) + pLo a b f l s u ka w j) ∧ (hi : Rat) = ((unitU f gs * pw2 f : Int) : Rat) * ((nou gs ka w : Rat) + pHi a b f l s u ka w j))
        ⟨_, _, _, _, _, _, _, _, rfl, rfl, by simp only [pLo, Rat.intCast_mul, cE]; grind, by simp only [pHi, Rat.intCast_mul, cE]; grind⟩ (fun _ _ _ _ => trivial) (fun j ρ S2 hj hp => ?_) (fun ρ S2 hp => ?_)
      · obtain ⟨lo, hi, r12, r13, r16, r17, r18, r19, rfl, rfl, hlo, hhi⟩ := hp
        have hj' : j < gs.length - 1 := by omega
        unfold DL.forTurn
        (try simp_arith only [Int.zero_add])
        refine walk_list (fun κ ρ S3 => ∃ (lo hi : Int) (r16 r17 r18 r19 : Option D), ρ = [some (hndD a b f bits), some (letsD l s u), some (.tup (gs.map D.int)), some (.lst ((endsL l s u (pw2 f)).map prD)), some (calmD a b f gs), some (.ref qm), some (.int (pw2 f)), some (.ref q), some (.int w), r9, some (.int ka), some (.int c), some (.int j), r13, some (.int lo), some (.int hi), r16, r17, r18, r19] ∧ S3 = S2 ∧ (lo : Rat) = ((unitU f gs * pw2 f : Int) : Rat) * ((nou gs ka w : Rat) + pLo a b f l s u ka w j + kLo a b f l s u ka w j κ) ∧ (hi : Rat) = ((unitU f gs * pw2 f : Int) : Rat) * ((nou gs ka w : Rat) + pHi a b f l s u ka w j + kHi a b f l s u ka w j κ))
          ⟨lo, hi, _, _, _, _, rfl, rfl, by rw [hlo]; simp only [kLo, Rat.add_zero], by rw [hhi]; simp only [kHi, Rat.add_zero]⟩ (fun _ _ _ _ => trivial) (fun κ x ρ S3 hx hp => ?_) (fun ρ S3 hp => ?_)
        · obtain ⟨lo, hi, r16, r17, r18, r19, rfl, rfl, hlo, hhi⟩ := hp
          have hκ := (List.getElem?_eq_some_iff.mp hx).1
          rw [enum_len, List.length_map] at hκ
          have hκ' : κ < 4 := hκ
          obtain ⟨⟨el, eh⟩, he⟩ : ∃ e, (endsL l s u (pw2 f))[κ]? = some e := ⟨_, List.getElem?_eq_getElem hκ⟩
          rw [enum_get (x := prD (el, eh)) (by rw [List.getElem?_map, he]; rfl)] at hx
          cases hx
          obtain ⟨d, hd⟩ := hB ka w j κ k10 wb hj' hκ' trivial
          obtain ⟨v, rfl, hv⟩ := hA.val hd
          obtain ⟨m0, n0⟩ := kinds_scale (f := f) (l := l) (s := s) (q := u) κ hκ' U0 hv he
          have eb := endsL_bd hl hf8 he
          unfold DL.forTurn prD
          (try simp_arith only [])
          refine ⟨trivial, gather_run (by show 2 ≤ sizeLine; decide) ?_⟩
          simp only [gW, DL.lcTurn]
          refine ⟨by simp, ?_⟩
          (try simp_arith only [])
          refine ⟨mvs, kyI ka w j κ, .int v, hdm, rfl, hd, ?_⟩
          (try simp_arith only [])
          refine ⟨mul_small_right (by omega) (by omega), ?_⟩
          refine ⟨by simp, ?_⟩
          (try simp_arith only [])
          refine ⟨mvs, kyI ka w j κ, .int v, hdm, rfl, hd, ?_⟩
          (try simp_arith only [])
          refine ⟨mul_small_right (by omega) (by omega), ?_⟩
          refine ⟨⟨trivial, by decide, by decide⟩, min1_L ?_⟩
          (try simp_arith only [])
          refine max1_L ?_
          (try simp_arith only [])
          refine ⟨_, _, _, _, _, _, rfl, trivial, ?_, ?_⟩
          · rw [Rat.intCast_add, hlo, m0]; simp only [kLo, tLo]; grind
          · rw [Rat.intCast_add, hhi, n0]; simp only [kHi, tHi]; grind
        · obtain ⟨lo, hi, r16, r17, r18, r19, rfl, rfl, hlo, hhi⟩ := hp
          simp only [s_nilA]
          rw [enum_len, List.length_map, show (endsL l s u (pw2 f)).length = 4 from rfl] at hlo hhi
          exact ⟨lo, hi, _, _, _, _, _, _, rfl, trivial, by rw [hlo]; simp only [pLo]; grind, by rw [hhi]; simp only [pHi]; grind⟩
      · obtain ⟨lo, hi, r12, r13, r16, r17, r18, r19, rfl, rfl, hlo, hhi⟩ := hp
        rw [show ((gs.length : Int) - 1 - 0).toNat = gs.length - 1 by omega] at hlo hhi
        rw [(p_all g1 wb).1] at hlo
        rw [(p_all g1 wb).2] at hhi
        (try simp_arith only [])
        refine ⟨q, kvs, kyR ka w, rfl, hq, rfl, Nat.lt_of_le_of_lt (show kvs.length ≤ 10000 by omega) (by decide), ?_⟩
        refine ⟨_, _, _, _, _, _, _, _, _, _, _, _, rfl, by rw [List.getElem?_set_self (List.getElem?_eq_some_iff.mp hq).1], by rw [List.getElem?_set_ne (Ne.symm hne)]; exact hqm, fun j c hj => ?_, hRA.put ⟨k10, wb, hlo, hhi⟩, hRB.put fun x y _ _ h => by omega, Nat.le_trans len_put (by omega)⟩
        rw [List.getElem?_set_ne (fun z => hS0 j c hj z.symm)]; exact hK j c hj
    · obtain ⟨kvs, r9, r10, r11, r12, r13, r14, r15, r16, r17, r18, r19, rfl, hq, hqm, hK, hRA, hRB, hl'⟩ := hp
      simp only [s_nilA]
      rw [enum_len, List.length_map, rl] at hRB hl'
      exact ⟨kvs, _, _, _, _, _, _, _, _, _, _, _, _, rfl, hq, hqm, hK, hRA, fun ka w' h1 h2 h => hRB ka w' h1 h2 (by
        by_cases e : w' = w
        · subst e; unfold beats at h2; split at h2 <;> split <;> omega
        · omega), by split at hl' <;> omega⟩
  · obtain ⟨kvs, r8, r9, r10, r11, r12, r13, r14, r15, r16, r17, r18, r19, rfl, hq, hqm, hK, hRA, hRB, hl'⟩ := hp
    rw [enum_len, List.length_map, all_len, List.length_replicate] at hRB hl'
    (try simp_arith only [hu])
    refine ⟨a, b, f, bits, gs, rfl, hh.h, by omega, ?_⟩
    (try simp_arith only [])
    refine ⟨mul_small_right (by omega) (by omega), ?_⟩
    exact hQ q kvs S' ⟨hq, hRA, fun ka w h1 h2 _ => hRB ka w h1 h2 (by unfold beats at h2; split at h2 <;> omega), by omega⟩ hK
end DL

namespace DL
open PySem PySem.Spec PyProof.Rows L2
/-! ### sizes of the ends -/
theorem rc_bd {M v : Int} {q : Rat} {k m : Nat} (h : (v : Rat) = (M : Rat) * q) (hM : M.natAbs < 2 ^ m) (hq : Rk k q) : v.natAbs < 2 ^ (m + k) := by
  have hd : ((q.den : Int) : Rat) ≠ 0 := by
    have := q.den_nz
    intro z
    exact this (by exact_mod_cast z)
  have e1 : q * ((q.den : Int) : Rat) = (q.num : Rat) := by
    have h2 := rat_self q
    grind
  have e2 : ((v * (q.den : Int) : Int) : Rat) = ((M * q.num : Int) : Rat) := by
    rw [Rat.intCast_mul, Rat.intCast_mul, h, ← e1]; grind
  have e3 : v * (q.den : Int) = M * q.num := by exact_mod_cast e2
  have e4 : v.natAbs * q.den = M.natAbs * q.num.natAbs := by
    have := congrArg Int.natAbs e3
    rw [Int.natAbs_mul, Int.natAbs_mul] at this
    simpa using this
  have h1 : v.natAbs ≤ v.natAbs * q.den := Nat.le_mul_of_pos_right _ q.den_pos
  have h2 : M.natAbs * q.num.natAbs < 2 ^ m * 2 ^ k := Nat.mul_lt_mul'' hM hq.n
  rw [← Nat.pow_add] at h2
  omega
theorem M_bd {f : Int} {gs : List Int} (h0 : 0 ≤ f) (h8 : f ≤ 8) (hn : gs.length ≤ 15) : 0 < unitU f gs * pw2 f ∧ (unitU f gs * pw2 f).natAbs < 2 ^ 150 := by
  have hw1 := pw2_pos f
  have hw2 := pw2_le (f := f) (k := 8) (by omega)
  have U0 := unit_pos (f := f) (gs := gs) h0
  have hUb : (unitU f gs).natAbs < 2 ^ (150 - 12) := by rw [unit_pow h0]; exact U_bd h0 h8 hn
  have h3 : (unitU f gs * pw2 f).natAbs < 2 ^ ((150 - 12) + 9) := natAbs_mul_lt hUb (by omega)
  exact ⟨Int.mul_pos U0 (by omega), lt_up h3 (by decide)⟩
theorem RcV.bd {a b f bits l s u : Int} {gs : List Int} {ka w : Nat} {lo hi : Int} (h : RcV a b f l s u gs ka w lo hi) (hh : HB a b f bits) (hl : LB l s u) (hg : GsOk 8 gs) : lo.natAbs < 2 ^ 950 ∧ hi.natAbs < 2 ^ 950 := by
  have g2 := hg.most
  have wb := h.wb
  have := rk_wW (bits := bits) hh hl (fun x hx => by have := hg.bd x hx; omega) h.k10 (t := w) (by unfold beats at wb; split at wb <;> omega) (gs := gs)
  have hM := (M_bd (f := f) (gs := gs) hh.h.f1 hh.h.f2 (by omega)).2
  exact ⟨rc_bd h.lo hM this.1, rc_bd h.hi hM this.2⟩
def rcLo (kvs : List (List L2.Key × D)) (ka w : Nat) : Int := match valD kvs (kyR ka w) with
  | some (.tup [.int lo, .int _]) => lo
  | _ => 0
def rcHi (kvs : List (List L2.Key × D)) (ka w : Nat) : Int := match valD kvs (kyR ka w) with
  | some (.tup [.int _, .int hi]) => hi
  | _ => 0
theorem Rch.get {a b f bits l s u : Int} {gs : List Int} {q : Nat} {S : DStore} {kvs : List (List L2.Key × D)} (h : Rch a b f bits l s u gs q S kvs) {ka w : Nat} (h10 : ka < 10) (hw : w < beats gs ka) :
    valD kvs (kyR ka w) = some (.tup [.int (rcLo kvs ka w), .int (rcHi kvs ka w)]) ∧ RcV a b f l s u gs ka w (rcLo kvs ka w) (rcHi kvs ka w) := by
  obtain ⟨d, hd⟩ := h.b ka w h10 hw trivial
  obtain ⟨lo, hi, rfl, hv⟩ := h.a.val hd
  unfold rcLo rcHi
  rw [hd]
  exact ⟨rfl, hv⟩
theorem Rch.dct {a b f bits l s u : Int} {gs : List Int} {q : Nat} {S : DStore} {kvs : List (List L2.Key × D)} (h : Rch a b f bits l s u gs q S kvs) : dctOf S q = some kvs := by unfold dctOf; rw [h.at']
theorem Rch.keep {a b f bits l s u : Int} {gs : List Int} {q : Nat} {S S' : DStore} {kvs : List (List L2.Key × D)} (h : Rch a b f bits l s u gs q S kvs) (k : S'[q]? = some (.dct kvs)) : Rch a b f bits l s u gs q S' kvs := ⟨k, h.a, h.b, h.len⟩
theorem mapI (bs : List Int) : (bs.map D.int).mapM inOf = some bs := by
  induction bs with
  | nil => rfl
  | cons x xs ih => simp [List.mapM_cons, ih, inOf]
theorem max_ex : ∀ bs : List Int, bs ≠ [] → ∃ m ∈ bs, ∀ y ∈ bs, y ≤ m
  | [], h => absurd rfl h
  | [x], _ => ⟨x, by simp, by simp⟩
  | x :: y :: r, _ => by
    obtain ⟨m, hm, h⟩ := max_ex (y :: r) (by simp)
    by_cases e : x ≤ m
    · exact ⟨m, List.mem_cons_of_mem _ hm, fun z hz => by rcases List.mem_cons.mp hz with rfl | hz; exact e; exact h z hz⟩
    · exact ⟨x, by simp, fun z hz => by rcases List.mem_cons.mp hz with rfl | hz; exact Int.le_refl _; have := h z hz; omega⟩
theorem min_ex : ∀ bs : List Int, bs ≠ [] → ∃ m ∈ bs, ∀ y ∈ bs, m ≤ y
  | [], h => absurd rfl h
  | [x], _ => ⟨x, by simp, by simp⟩
  | x :: y :: r, _ => by
    obtain ⟨m, hm, h⟩ := min_ex (y :: r) (by simp)
    by_cases e : m ≤ x
    · exact ⟨m, List.mem_cons_of_mem _ hm, fun z hz => by rcases List.mem_cons.mp hz with rfl | hz; exact e; exact h z hz⟩
    · exact ⟨x, by simp, fun z hz => by rcases List.mem_cons.mp hz with rfl | hz; exact Int.le_refl _; have := h z hz; omega⟩
theorem max1_I {bs : List Int} {m : Bool} {S : DStore} {Q : QE} (h : bs ≠ []) (hQ : ∀ x, x ∈ bs → (∀ y ∈ bs, y ≤ x) → Q (.int x) S) : biD .max1 m [.lst (bs.map D.int)] S Q := by
  obtain ⟨x, hx, hy⟩ := max_ex bs h
  exact ⟨_, bs, x, rfl, mapI bs, hx, hy, hQ x hx hy⟩
theorem min1_I {bs : List Int} {m : Bool} {S : DStore} {Q : QE} (h : bs ≠ []) (hQ : ∀ x, x ∈ bs → (∀ y ∈ bs, x ≤ y) → Q (.int x) S) : biD .min1 m [.lst (bs.map D.int)] S Q := by
  obtain ⟨x, hx, hy⟩ := min_ex bs h
  exact ⟨_, bs, x, rfl, mapI bs, hx, hy, hQ x hx hy⟩
theorem fdiv_bd {x M : Int} {k : Nat} (h : x.natAbs < 2 ^ k) (hM : 0 < M) : (x.fdiv M).natAbs < 2 ^ (k + 1) := by
  rw [Int.fdiv_eq_ediv_of_nonneg _ (by omega)]
  have h1 := Int.mul_ediv_add_emod x M
  have h2 := Int.emod_nonneg x (show M ≠ 0 by omega)
  have h3 := Int.emod_lt_of_pos x hM
  rw [Nat.pow_succ]
  have : (x / M).natAbs ≤ x.natAbs + 1 := by
    have : (x / M).natAbs ≤ x.natAbs + 1 := by
      rcases Int.le_total 0 x with e | e
      · have := Int.ediv_le_self M e
        have := Int.ediv_nonneg e (Int.le_of_lt hM)
        omega
      · have h4 : x / M ≤ 0 := by
          have := Int.ediv_le_ediv hM e
          simpa using this
        have h5 : x ≤ x / M := by
          by_cases z : x / M = 0
          · omega
          · have h6 : M * (x / M + 1) ≤ 1 * (x / M + 1) := Int.mul_le_mul_of_nonpos_right (by omega) (by omega)
            rw [Int.mul_add] at h6
            omega
        omega
    exact this
  have h4 : 0 < 2 ^ k := Nat.two_pow_pos k
  omega
theorem pow_up {m n : Nat} (h : m ≤ n) : (2 : Int) ^ m ≤ 2 ^ n := by
  have := Nat.pow_le_pow_right (n := 2) (by decide) h
  exact_mod_cast this
/-! ### room for the peak -/
def roomyC : List CS := [.lock (.asg (.name 3) (.bin .Add false (.bin .FloorDiv false (.bi .max1 false [(.lc false (.bi .max2 false [(.ix (.var 6) (.con (.int 1))), (.bin .Sub false (.con (.int 0)) (.ix (.var 6) (.con (.int 0))))]) (.tup [(.name 5), (.name 6)]) (.items (.var 1)) [(.ccmp .Gt (.ix (.var 5) (.con (.int 0))) (.con (.int 2)))] [5, 6])]) (.var 2)) (.con (.int 1)))),
  .asg (.name 4) (.con (.int 4)),
  .while_ (.ccmp .LtE (.bin .LShift false (.con (.int 1)) (.bin .Sub false (.var 4) (.con (.int 1)))) (.var 3)) [.asg (.name 4) (.bin .Add false (.var 4) (.con (.int 1)))],
  .ret (.bin .Add false (.sl false (.var 0) .no (.yes (.con (.int 3)))) (.tup [(.var 4)]))]
def spRoomy (ds : List D) (S : DStore) (Q : QE) : Prop := ∃ a b f bits l s u gs q kvs, ds = [hndD a b f bits, .ref q, .int (unitU f gs * pw2 f)] ∧ HB a b f bits ∧ LB l s u ∧ GsOk 8 gs ∧ Rch a b f bits l s u gs q S kvs ∧ ∀ bits' S', 4 ≤ bits' → bits' ≤ 2000 → Kp S S' → Q (hndD a b f bits') S'
theorem spRoomy_len : ∀ ds S Q, spRoomy ds S Q → ds.length = 3 := by rintro _ _ _ ⟨_, _, _, _, _, _, _, _, _, _, rfl, _⟩; rfl
theorem roomy_ok {G : Fns} : ∀ ds S Q, spRoomy ds S Q → wpSs G roomyC (startD 7 ds) S { nx := fun _ S' => Q .non S', rt := Q } := by
  rintro ds S Q ⟨a, b, f, bits, l, s, u, gs, q, kvs, rfl, hh, hl, hg, hR, hQ⟩
  have g1 := hg.two
  have g2 := hg.most
  obtain ⟨M0, MB⟩ := M_bd (f := f) (gs := gs) hh.h.f1 hh.h.f2 (by omega)
  generalize hMM : unitU f gs * pw2 f = M at *
  have hq := hR.at'
  refine ss_split 1 (fun ρ S' => ∃ (p : Int) (r5 r6 : Option D), ρ = [some (hndD a b f bits), some (.ref q), some (.int M), some (.int p), none, r5, r6] ∧ p.natAbs < 2 ^ 1000 ∧ Kp S S') (fun N hN => ?_) ?_
  · show wpSs G [_] [some (hndD a b f bits), some (.ref q), some (.int M), none, none, none, none] _ _
    rw [s_cons, s_lock]
    refine ⟨q, kvs, hq, ?_⟩
    have hq2 : (S.set q (.dlk kvs))[q]? = some (.dlk kvs) := by rw [List.getElem?_set_self (List.getElem?_eq_some_iff.mp hq).1]
    have hK2 : Kp S ((S.set q (.dlk kvs)).set q (.dct kvs)) := fun j c hj => by
      rw [List.set_set]
      by_cases e : q = j
      · subst e
        rw [List.getElem?_set_self (List.getElem?_eq_some_iff.mp hq).1, ← hq]; exact hj
      · rw [List.getElem?_set_ne e]; exact hj
    generalize S.set q (.dlk kvs) = Sl at *
    simp_arith only []
    refine ⟨q, kvs, rfl, hq2, ?_⟩
    refine gather_inv (fun i acc S' => S' = Sl ∧ acc.length ≤ i ∧ (∃ bs : List Int, acc = bs.map D.int ∧ ∀ x ∈ bs, x.natAbs < 2 ^ 951) ∧ ∀ m ka w v, m < i → kvs[m]? = some (kyR ka w, v) → 2 < ka → acc ≠ []) (by rw [List.length_map]; exact Nat.le_trans hR.len (by decide)) ⟨rfl, Nat.le_refl _, ⟨[], rfl, by simp⟩, fun m _ _ _ h => absurd h (by omega)⟩ (fun i acc S' h => ⟨trivial, h.2.1⟩) (fun i x acc S' hx h N h1 h2 => ?_) (fun acc S' h => ?_)
    · obtain ⟨rfl, hlen, ⟨bs, rfl, hb⟩, hne⟩ := h
      rw [List.getElem?_map] at hx
      obtain ⟨p, hp, rfl⟩ := Option.map_eq_some_iff.mp hx
      obtain ⟨ka, w, lo, hi, rfl, hv⟩ := hR.a p (List.mem_of_getElem? hp)
      have bd := hv.bd hh hl hg
      unfold lcTurn kyR
      simp only [List.map_cons, List.map_nil, keyD]
      (try simp_arith only [])
      refine ⟨trivial, if_i (fun hk => ?_) fun hk => ?_⟩
      · (try simp_arith only [])
        refine h1 _ _ ⟨rfl, by simp at hlen ⊢; omega, ⟨bs ++ [_], by rw [List.map_append]; rfl, fun x hx => ?_⟩, fun m ka w v _ _ _ => by simp⟩
        rcases List.mem_append.mp hx with hx | hx
        · exact hb x hx
        · rw [List.mem_singleton.mp hx]
          split <;> omega
      · refine h2 _ ⟨rfl, by omega, ⟨bs, rfl, hb⟩, fun m ka' w' v hm he hk' => ?_⟩
        by_cases e : m = i
        · subst e
          rw [hp] at he
          cases he
          omega
        · exact hne m ka' w' v (by omega) he hk'
    · obtain ⟨rfl, hlen, ⟨bs, rfl, hb⟩, hne⟩ := h
      rw [List.length_map] at hne
      have hb0 : bs ≠ [] := by
        obtain ⟨d, hd⟩ := hR.b 3 0 (by decide) (by unfold beats; rw [if_neg (by decide)]; omega) trivial
        obtain ⟨m, hm⟩ := List.getElem?_of_mem (valD_mem hd)
        have := hne m 3 0 d (List.getElem?_eq_some_iff.mp hm).1 hm (by decide)
        intro z; exact this (by rw [z]; rfl)
      refine max1_I hb0 fun x hx _ => ?_
      (try simp_arith only [])
      refine ⟨div_small (by omega) (lt_up MB (by decide)), ?_⟩
      have := fdiv_bd (hb x hx) M0
      exact hN _ _ ⟨_, _, _, rfl, by omega, hK2⟩
  rintro ρ S' ⟨p, r5, r6, rfl, hp, hK⟩
  show wpSs G [_, _, _] _ _ _
  (try simp_arith only [])
  refine ⟨fun k ρ S2 => S2 = S' ∧ ∃ bt : Int, ρ = [some (hndD a b f bits), some (.ref q), some (.int M), some (.int p), some (.int bt), r5, r6] ∧ 4 ≤ bt ∧ bt ≤ 2000 ∧ k = (2000 - bt).toNat, ⟨1996, rfl, 4, rfl, by omega, by omega, by omega⟩, ?_⟩
  rintro k ρ S2 ⟨rfl, bt, rfl, h4, hb, rfl⟩
  unfold whileTest DL.whileTurn
  (try simp_arith only [])
  refine ⟨cpow1 (by omega) (by omega), ?_⟩
  refine if_i (fun hy => ?_) fun hy => ?_
  · have : bt < 1999 := by
      apply Classical.byContradiction
      intro z
      have h1 : (2 : Int) ^ 1000 ≤ 2 ^ (bt - 1).toNat := pow_up (by omega)
      have h2 : p < 2 ^ 1000 := by omega
      omega
    (try simp_arith only [])
    exact ⟨_, by omega, by trivial, _, rfl, by omega, by omega, rfl⟩
  · unfold hndD
    have cc : cutD [D.int a, .int b, .int f, .int bits] none (some 3) = [.int a, .int b, .int f] := rfl
    (try simp_arith only [slT, cc])
    first
      | exact hQ bt _ h4 hb hK
      | exact ⟨by decide, hQ bt _ h4 hb hK⟩
      | exact ⟨by decide, by decide, hQ bt _ h4 hb hK⟩
end DL

namespace DL
open PySem PySem.Spec PyProof.Rows L2
def fenD (lo hi sl fa st : Int) : D := .tup [.int lo, .int hi, .int sl, .int fa, .int st]
structure FB (lo hi sl fa st : Int) : Prop where
  lo : lo.natAbs < 2 ^ 1000
  hi : hi.natAbs < 2 ^ 1000
  sl : sl.natAbs < 2 ^ 1000
  fa : fa.natAbs < 2 ^ 1000
  st : st.natAbs < 2 ^ 1000
def limitsC (jt jp : Nat) : List CS := [.par2 9 7 (.bin .Sub false (.bi .len false [(.var 1)]) (.con (.int 1))) (.lst true []),
  .for_ (.tup [(.name 10), (.name 11)]) (.seq (.tup [(.tup [(.con (.int 0)), (.bin .Add false (.var 9) (.con (.int 1)))]), (.tup [(.con (.int 1)), (.var 9)]), (.tup [(.con (.int 2)), (.var 9)])])) [.asg (.name 12) (.bi .max1 false [(.lc false (.bi .max2 false [(.ix (.ix (.var 2) (.tup [(.var 10), (.var 15)])) (.con (.int 1))), (.bin .Sub false (.con (.int 0)) (.ix (.ix (.var 2) (.tup [(.var 10), (.var 15)])) (.con (.int 0))))]) (.name 15) (.range1 (.var 11)) [] [15])]),
    .append (.var 7) (.bin .Sub false (.con (.int 0)) (.bin .FloorDiv false (.bin .Sub false (.con (.int 0)) (.var 12)) (.var 3)))],
  .asg (.name 5) (.bi .min1 false [(.lc false (.bin .Add false (.ix (.var 1) (.var 15)) (.bin .FloorDiv false (.ix (.ix (.var 2) (.tup [(.con (.int 0)), (.var 15)])) (.con (.int 0))) (.var 3))) (.name 15) (.range1 (.bin .Add false (.var 9) (.con (.int 1)))) [] [15])]),
  .asg (.name 6) (.bi .max1 false [(.lc false (.bin .Sub false (.ix (.var 1) (.var 15)) (.bin .FloorDiv false (.bin .Sub false (.con (.int 0)) (.ix (.ix (.var 2) (.tup [(.con (.int 0)), (.var 15)])) (.con (.int 1)))) (.var 3))) (.name 15) (.range1 (.bin .Add false (.var 9) (.con (.int 1)))) [] [15])]),
  .asg (.name 7) (.bin .Add true (.lst false [(.var 5), (.var 6)]) (.var 7)),
  .for_ (.name 8) (.range1 (.var 4)) [.asg (.name 13) (.call jt [(.var 0), (.con (.int 5))]),
    .asg (.name 14) (.call jp [(.var 0), (.lst false [(.con (.int 1)), (.con (.int 1)), (.con (.int 2)), (.bin .Add false (.con (.int 1)) (.call jt [(.var 0), (.con (.int 9))]))])]),
    .asg (.sub (.var 7) (.var 13)) (.ite (.ccmp .Eq (.var 13) (.con (.int 0))) (.bin .Add false (.ix (.var 7) (.var 13)) (.var 14)) (.bin .Sub false (.ix (.var 7) (.var 13)) (.var 14)))],
  .ret (.bin .Add false (.tup [(.bi .min2 false [(.ix (.var 7) (.con (.int 0))), (.ix (.var 7) (.con (.int 1)))]), (.ix (.var 7) (.con (.int 1)))]) (.bi .tuple1 false [(.lc false (.bi .max2 false [(.con (.int 0)), (.var 16)]) (.name 16) (.seq (.sl false (.var 7) (.yes (.con (.int 2))) .no)) [] [16])]))]
def spLimits (ds : List D) (S : DStore) (Q : QE) : Prop := ∃ n T a b f bits l s u gs q kvs less, ds = [.ref n, .tup (gs.map D.int), .ref q, .int (unitU f gs * pw2 f), .int less] ∧ Pot n T S ∧ T < 1000000 ∧ HB a b f bits ∧ LB l s u ∧ GsOk 8 gs ∧ Rch a b f bits l s u gs q S kvs ∧ 0 ≤ less ∧ less ≤ 2 ∧
  ∀ lo hi sl fa st S', FB lo hi sl fa st → Pot n (T + 20) S' → S'[q]? = some (.dct kvs) → Q (fenD lo hi sl fa st) S'
theorem spLimits_len : ∀ ds S Q, spLimits ds S Q → ds.length = 5 := by rintro _ _ _ ⟨_, _, _, _, _, _, _, _, _, _, _, _, _, rfl, _⟩; rfl
theorem map_mk {α : Type} (g : α → Int) (xs : List α) : xs.map (fun x => D.int (g x)) = (xs.map g).map D.int := by rw [List.map_map]; rfl
theorem rng_ne {lo hi : Int} (h : lo < hi) (g : Int → Int) : (rng lo hi).map g ≠ [] := fun z => by
  have h1 := congrArg List.length z
  rw [List.length_map, rng_len] at h1
  simp at h1; omega
theorem pot_ne {n q : Nat} {T : Int} {S : DStore} {kvs : List (List L2.Key × D)} (hP : Pot n T S) (hq : S[q]? = some (.dct kvs)) : q ≠ n := fun z => by
  obtain ⟨_, _, _, e, _⟩ := hP
  rw [z, e] at hq; cases hq
theorem gI_600 {gs : List Int} (hg : GsOk 8 gs) (i : Int) : -600 ≤ gI gs i ∧ gI gs i ≤ 600 := gI_bd (B := 600) (by decide) hg.bd i
theorem o_addR {S : DStore} {p : Nat} {a b : List D} {m : Bool} {Q : QE} (h : S[p]? = some (.lst b)) : binD .Add m (.lst a) (.ref p) S Q = (a.length + b.length ≤ sizeLine ∧ newL m (a ++ b) S Q) := by
  show (∃ a' b', lstOf S (.lst a) = some a' ∧ lstOf S (.ref p) = some b' ∧ a'.length + b'.length ≤ sizeLine ∧ newL m (a' ++ b') S Q) = _
  have e1 : lstOf S (.lst a) = some a := rfl
  have e2 : lstOf S (.ref p) = some b := by simp only [lstOf, h]
  rw [e1, e2]
  simp
theorem Pot.off {n p : Nat} {T : Int} {S : DStore} {d : Cell} (h : Pot n T S) (hp : p ≠ n) : Pot n T (S.set p d) := let ⟨g, m, t, a, b, c⟩ := h; ⟨g, m, t, by rw [List.getElem?_set_ne hp]; exact a, b, c⟩
theorem limits_ok {G : Fns} {jt jp : Nat} (ht : G.fn jt = spTake) (hp : G.fn jp = spPick) : ∀ ds S Q, spLimits ds S Q → wpSs G (limitsC jt jp) (startD 17 ds) S { nx := fun _ S' => Q .non S', rt := Q } := by
  rintro ds S0 Q ⟨n, T, a, b, f, bits, l, s, u, gs, q, kvs, less, rfl, hP0, hT, hh, hl, hg, hR, hl0, hl2, hQ⟩
  have g1 := hg.two
  have g2 := hg.most
  obtain ⟨M0, MB⟩ := M_bd (f := f) (gs := gs) hh.h.f1 hh.h.f2 (by omega)
  have hDM : DivOk (unitU f gs * pw2 f) := div_small (by omega) (lt_up MB (by decide))
  generalize hMM : unitU f gs * pw2 f = M at *
  have hq0 := hR.at'
  have hqn := pot_ne hP0 hq0
  have get := fun {ka w : Nat} (h1 : ka < 10) (h2 : w < beats gs ka) => hR.get h1 h2
  have bd := fun {ka w : Nat} (h1 : ka < 10) (h2 : w < beats gs ka) => (hR.get h1 h2).2.bd hh hl hg
  have bt0 : beats gs 0 = gs.length := by unfold beats; rw [if_pos rfl]
  refine ss_split 1 (fun ρ S => ∃ p, ρ = [some (.ref n), some (.tup (gs.map D.int)), some (.ref q), some (.int M), some (.int less), none, none, some (.ref p), none, some (.int ((gs.length : Int) - 1)), none, none, none, none, none, none, none] ∧ S[p]? = some (.lst []) ∧ S[q]? = some (.dct kvs) ∧ Pot n T S ∧ p ≠ q ∧ p ≠ n) (fun N hN => ?_) ?_
  · show wpSs G [_] _ _ _
    simp_arith only [List.length_map]
    have hqlt := (List.getElem?_eq_some_iff.mp hq0).1
    have hk : Kp S0 (S0 ++ [Cell.lst []]) := fun j c hj => by rw [List.getElem?_append_left (List.getElem?_eq_some_iff.mp hj).1]; exact hj
    have hnlt : n < S0.length := by
      obtain ⟨_, _, _, e, _⟩ := hP0
      exact (List.getElem?_eq_some_iff.mp e).1
    exact hN _ _ ⟨S0.length, rfl, by simp, hk _ _ hq0, hP0.keep hk, by omega, by omega⟩
  rintro ρ S1 ⟨p, rfl, hp1, hq1, hP1, hpq, hpn⟩
  clear hP0
  refine ss_split 1 (fun ρ S => ∃ (xs : List Int) (r10 r11 r12 r13 r14 r15 r16 : Option D), ρ = [some (.ref n), some (.tup (gs.map D.int)), some (.ref q), some (.int M), some (.int less), none, none, some (.ref p), none, some (.int ((gs.length : Int) - 1)), r10, r11, r12, r13, r14, r15, r16] ∧ S[p]? = some (.lst (xs.map D.int)) ∧ S[q]? = some (.dct kvs) ∧ Pot n T S ∧ xs.length = 3 ∧ ∀ x ∈ xs, x.natAbs < 2 ^ 960) (fun N hN => ?_) ?_
  · show wpSs G [_] _ _ _
    simp_arith only []
    have itm : ∀ (i : Nat) (x : D), [D.tup [.int 0, .int ((gs.length : Int) - 1 + 1)], D.tup [.int 1, .int ((gs.length : Int) - 1)], D.tup [.int 2, .int ((gs.length : Int) - 1)]][i]? = some x → i < 3 ∧ x = .tup [.int (i : Int), .int ((beats gs i : Nat) : Int)] := fun i x hx => by
      match i, hx with
      | 0, hx => cases hx; refine ⟨by decide, ?_⟩; rw [bt0, show (gs.length : Int) - 1 + 1 = gs.length by omega]; rfl
      | 1, hx => cases hx; refine ⟨by decide, ?_⟩; rw [show beats gs 1 = gs.length - 1 from rfl, show ((gs.length - 1 : Nat) : Int) = gs.length - 1 by omega]; rfl
      | 2, hx => cases hx; refine ⟨by decide, ?_⟩; rw [show beats gs 2 = gs.length - 1 from rfl, show ((gs.length - 1 : Nat) : Int) = gs.length - 1 by omega]; rfl
    refine walk_list (fun i ρ S => ∃ (xs : List Int) (r10 r11 r12 r13 r14 r15 r16 : Option D), ρ = [some (.ref n), some (.tup (gs.map D.int)), some (.ref q), some (.int M), some (.int less), none, none, some (.ref p), none, some (.int ((gs.length : Int) - 1)), r10, r11, r12, r13, r14, r15, r16] ∧ S[p]? = some (.lst (xs.map D.int)) ∧ S[q]? = some (.dct kvs) ∧ Pot n T S ∧ xs.length = i ∧ ∀ x ∈ xs, x.natAbs < 2 ^ 960)
      ⟨[], _, _, _, _, _, _, _, rfl, hp1, hq1, hP1, rfl, by simp⟩ (fun _ _ _ _ => trivial) (fun i x ρ S hx hpp => ?_) (fun ρ S hpp => ?_)
    · obtain ⟨xs, r10, r11, r12, r13, r14, r15, r16, rfl, hp1, hq1, hP1, hxl, hxb⟩ := hpp
      obtain ⟨i3, rfl⟩ := itm i x hx
      have hd : dctOf S q = some kvs := by unfold dctOf; rw [hq1]
      have bpos : 0 < beats gs i := by unfold beats; split <;> omega
      have bsm : beats gs i ≤ 8 := by unfold beats; split <;> omega
      unfold DL.forTurn
      (try simp_arith only [])
      refine ⟨trivial, ⟨by omega, by omega⟩, ?_⟩
      refine gather_range (fun x => D.int (if 0 - rcLo kvs i x.toNat > rcHi kvs i x.toNat then 0 - rcLo kvs i x.toNat else rcHi kvs i x.toNat)) (len_le (by omega)) trivial (fun x x0 x1 N' hN' => ?_) ?_
      · obtain ⟨w, rfl⟩ := Int.eq_ofNat_of_zero_le x0
        simp only [Int.toNat_natCast] at hN'
        have gt := (get (ka := i) (w := w) (by omega) (by omega)).1
        unfold lcTurn
        (try simp_arith only [])
        refine ⟨kvs, kyR i w, _, hd, rfl, gt, ?_⟩
        (try simp_arith only [])
        refine ⟨kvs, kyR i w, _, hd, rfl, gt, ?_⟩
        (try simp_arith only [])
        exact hN'
      · rw [map_mk]
        refine max1_I (rng_ne (by omega) _) fun x hx _ => ?_
        obtain ⟨y, hy, rfl⟩ := List.mem_map.mp hx
        obtain ⟨y0, y1⟩ := mem_rng.mp hy
        have bb := bd (ka := i) (w := y.toNat) (by omega) (by omega)
        have vb : (0 - (if 0 - rcLo kvs i y.toNat > rcHi kvs i y.toNat then 0 - rcLo kvs i y.toNat else rcHi kvs i y.toNat)).natAbs < 2 ^ 951 := by split <;> omega
        have fb := fdiv_bd vb M0
        (try simp_arith only [])
        refine ⟨lat hp1, hDM, _, hp1, len_lt (by rw [List.length_map]; omega), ?_⟩
        refine ⟨xs ++ [_], _, _, _, _, _, _, _, rfl, by rw [set_get hp1, List.map_append]; rfl, by rw [List.getElem?_set_ne hpq]; exact hq1, hP1.off hpn, by simp; omega, fun z hz => ?_⟩
        rcases List.mem_append.mp hz with hz | hz
        · exact hxb z hz
        · rw [List.mem_singleton.mp hz]; omega
    · obtain ⟨xs, r10, r11, r12, r13, r14, r15, r16, rfl, hp1, hq1, hP1, hxl, hxb⟩ := hpp
      simp only [s_nilA]
      exact hN _ _ ⟨xs, _, _, _, _, _, _, _, rfl, hp1, hq1, hP1, hxl, hxb⟩
  rintro ρ S2 ⟨xs, r10, r11, r12, r13, r14, r15, r16, rfl, hp2, hq2, hP2, hxl, hxb⟩
  clear hp1 hq1 hP1
  refine ss_split 3 (fun ρ S => ∃ (p2 : Nat) (ys : List Int) (r5 r6 : Option D), ρ = [some (.ref n), some (.tup (gs.map D.int)), some (.ref q), some (.int M), some (.int less), r5, r6, some (.ref p2), none, some (.int ((gs.length : Int) - 1)), r10, r11, r12, r13, r14, r15, r16] ∧ S[p2]? = some (.lst (ys.map D.int)) ∧ S[q]? = some (.dct kvs) ∧ Pot n T S ∧ p2 ≠ q ∧ p2 ≠ n ∧ ys.length = 5 ∧ ∀ x ∈ ys, x.natAbs < 2 ^ 970) (fun N hN => ?_) ?_
  · have hd : dctOf S2 q = some kvs := by unfold dctOf; rw [hq2]
    show wpSs G [_, _, _] _ _ _
    simp_arith only []
    refine ⟨⟨by omega, by omega⟩, ?_⟩
    refine gather_range (fun x => D.int (gI gs x + (rcLo kvs 0 x.toNat).fdiv M)) (len_le (by omega)) trivial (fun x x0 x1 N' hN' => ?_) ?_
    · obtain ⟨w, rfl⟩ := Int.eq_ofNat_of_zero_le x0
      simp only [Int.toNat_natCast] at hN'
      have gt := (get (ka := 0) (w := w) (by omega) (by omega)).1
      unfold lcTurn
      (try simp_arith only [at_g (gs := gs) (i := (w : Int)) (by omega) (by omega)])
      refine ⟨kvs, kyR 0 w, _, hd, rfl, gt, ?_⟩
      (try simp_arith only [])
      exact ⟨hDM, hN'⟩
    rw [map_mk]
    refine min1_I (rng_ne (by omega) _) fun x hx _ => ?_
    have xb : x.natAbs < 2 ^ 960 := by
      obtain ⟨y, hy, rfl⟩ := List.mem_map.mp hx
      obtain ⟨y0, y1⟩ := mem_rng.mp hy
      have bb := (bd (ka := 0) (w := y.toNat) (by omega) (by omega)).1
      have fb := fdiv_bd bb M0
      have := gI_600 hg y
      omega
    (try simp_arith only [])
    refine ⟨⟨by omega, by omega⟩, ?_⟩
    refine gather_range (fun x => D.int (gI gs x - (0 - rcHi kvs 0 x.toNat).fdiv M)) (len_le (by omega)) trivial (fun x x0 x1 N' hN' => ?_) ?_
    · obtain ⟨w, rfl⟩ := Int.eq_ofNat_of_zero_le x0
      simp only [Int.toNat_natCast] at hN'
      have gt := (get (ka := 0) (w := w) (by omega) (by omega)).1
      unfold lcTurn
      (try simp_arith only [at_g (gs := gs) (i := (w : Int)) (by omega) (by omega)])
      refine ⟨kvs, kyR 0 w, _, hd, rfl, gt, ?_⟩
      (try simp_arith only [])
      exact ⟨hDM, hN'⟩
    rw [map_mk]
    refine max1_I (rng_ne (by omega) _) fun z hz _ => ?_
    have zb : z.natAbs < 2 ^ 960 := by
      obtain ⟨y, hy, rfl⟩ := List.mem_map.mp hz
      obtain ⟨y0, y1⟩ := mem_rng.mp hy
      have bb := (bd (ka := 0) (w := y.toNat) (by omega) (by omega)).2
      have fb := fdiv_bd (x := 0 - rcHi kvs 0 y.toNat) (k := 950) (by omega) M0
      have := gI_600 hg y
      omega
    (try simp_arith only [])
    rw [o_addR hp2]
    refine ⟨len_le (by simp; omega), ?_⟩
    show N _ (S2 ++ [_])
    have hk : ∀ c, Kp S2 (S2 ++ [c]) := fun c j d hj => by rw [List.getElem?_append_left (List.getElem?_eq_some_iff.mp hj).1]; exact hj
    have hqlt := (List.getElem?_eq_some_iff.mp hq2).1
    have hnlt : n < S2.length := by
      obtain ⟨_, _, _, e, _⟩ := hP2
      exact (List.getElem?_eq_some_iff.mp e).1
    refine hN _ _ ⟨S2.length, x :: z :: xs, _, _, rfl, by simp, hk _ _ _ hq2, hP2.keep (hk _), by omega, by omega, by simp; omega, fun y hy => ?_⟩
    rcases List.mem_cons.mp hy with rfl | hy
    · omega
    rcases List.mem_cons.mp hy with rfl | hy
    · omega
    · have := hxb y hy; omega
  rintro ρ S3 ⟨p2, ys, r5, r6, rfl, hp3, hq3, hP3, hpq2, hpn2, hyl, hyb⟩
  clear hp2 hq2 hP2
  refine ss_split 1 (fun ρ S => ∃ (ys : List Int) (r8 r10 r11 r12 r13 r14 r15 r16 : Option D), ρ = [some (.ref n), some (.tup (gs.map D.int)), some (.ref q), some (.int M), some (.int less), r5, r6, some (.ref p2), r8, some (.int ((gs.length : Int) - 1)), r10, r11, r12, r13, r14, r15, r16] ∧ S[p2]? = some (.lst (ys.map D.int)) ∧ S[q]? = some (.dct kvs) ∧ Pot n (T + 20) S ∧ ys.length = 5 ∧ ∀ x ∈ ys, x.natAbs < 2 ^ 980) (fun N hN => ?_) ?_
  · show wpSs G [_] _ _ _
    simp_arith only []
    refine ⟨⟨by omega, by omega⟩, ?_⟩
    refine walk_range (fun i ρ S => ∃ (ys : List Int) (r8 r10 r11 r12 r13 r14 r15 r16 : Option D), ρ = [some (.ref n), some (.tup (gs.map D.int)), some (.ref q), some (.int M), some (.int less), r5, r6, some (.ref p2), r8, some (.int ((gs.length : Int) - 1)), r10, r11, r12, r13, r14, r15, r16] ∧ S[p2]? = some (.lst (ys.map D.int)) ∧ S[q]? = some (.dct kvs) ∧ Pot n (T + 3 * i) S ∧ ys.length = 5 ∧ ∀ x ∈ ys, x.natAbs < 2 ^ 970 + 10 * i)
      ⟨ys, _, _, _, _, _, _, _, _, rfl, hp3, hq3, hP3.mono (by omega), hyl, fun x hx => by have := hyb x hx; omega⟩ (fun _ _ _ _ => trivial) (fun i ρ S hi hpp => ?_) (fun ρ S hpp => ?_)
    · obtain ⟨ys, r8, r10, r11, r12, r13, r14, r15, r16, rfl, hp3, hq3, hP3, hyl, hyb⟩ := hpp
      unfold DL.forTurn
      (try simp_arith only [ht])
      refine takeP hP3 (by omega) (by omega) (by omega) fun v S4 v0 v1 hP3 hF _ => ?_
      replace hp3 := hF.get hpn2 hp3
      replace hq3 := hF.get hqn hq3
      (try simp_arith only [ht])
      refine takeP hP3 (by omega) (by omega) (by omega) fun v2 S5 _ _ hP3 hF _ => ?_
      replace hp3 := hF.get hpn2 hp3
      replace hq3 := hF.get hqn hq3
      (try simp_arith only [hp])
      refine pickI (lo := 1) (hi := 9) hP3 (by omega) (by simp only [allI, and_true]; omega) fun st S6 _ _ hP3 hF _ => ?_
      replace hp3 := hF.get hpn2 hp3
      replace hq3 := hF.get hqn hq3
      obtain ⟨vn, rfl⟩ := Int.eq_ofNat_of_zero_le v0
      obtain ⟨yv, hyv⟩ : ∃ y, ys[vn]? = some y := ⟨_, List.getElem?_eq_getElem (by omega)⟩
      have ybd := hyb yv (List.mem_of_getElem? hyv)
      have hixn : ixN (ys.map D.int).length (vn : Int) = some vn := by
        unfold ixN; rw [List.length_map]; simp; omega
      have hat : atI (ys.map D.int) (vn : Int) = some (.int yv) := atI_nat' (by omega) (by simp [List.getElem?_map, hyv])
      have memb : ∀ z : Int, z.natAbs < 2 ^ 970 + 10 * (i + 1) → ∀ x ∈ ys.set vn z, x.natAbs < 2 ^ 970 + 10 * (i + 1) := fun z hz x hx => by
        rcases List.mem_or_eq_of_mem_set hx with h | rfl
        · have := hyb x h; omega
        · exact hz
      (try simp_arith only [])
      refine if_i (fun h => ?_) fun h => ?_
      · (try simp_arith only [hp3, hat])
        exact ⟨vn, hixn, ys.set vn (yv + st), _, _, _, _, _, _, _, _, rfl, by rw [set_get hp3, List.map_set], by rw [List.getElem?_set_ne hpq2]; exact hq3, (hP3.off hpn2).mono (by omega), by simp; omega, memb _ (by omega)⟩
      · (try simp_arith only [hp3, hat])
        exact ⟨vn, hixn, ys.set vn (yv - st), _, _, _, _, _, _, _, _, rfl, by rw [set_get hp3, List.map_set], by rw [List.getElem?_set_ne hpq2]; exact hq3, (hP3.off hpn2).mono (by omega), by simp; omega, memb _ (by omega)⟩
    · obtain ⟨ys, r8, r10, r11, r12, r13, r14, r15, r16, rfl, hp3, hq3, hP3, hyl, hyb⟩ := hpp
      simp only [s_nilA]
      refine hN _ _ ⟨ys, _, _, _, _, _, _, _, _, rfl, hp3, hq3, hP3.mono (by omega), hyl, fun x hx => ?_⟩
      have := hyb x hx
      omega
  rintro ρ S4 ⟨ys, r8, r10, r11, r12, r13, r14, r15, r16, rfl, hp4, hq4, hP4, hyl, hyb⟩
  clear hp3 hq3 hP3
  match ys, hyl with
  | [y0, y1, y2, y3, y4], _ =>
    have b0 := hyb y0 (by simp); have b1 := hyb y1 (by simp); have b2 := hyb y2 (by simp); have b3 := hyb y3 (by simp); have b4 := hyb y4 (by simp)
    simp only [List.map_cons, List.map_nil] at hp4
    have hlo : lstOf S4 (.ref p2) = some [.int y0, .int y1, .int y2, .int y3, .int y4] := by simp only [lstOf, hp4]
    have sl2 : ∀ Q : QE, slD false S4 (.ref p2) (some 2) none Q = Q (.lst [.int y2, .int y3, .int y4]) S4 := fun Q => by
      show (∃ xs, lstOf S4 (.ref p2) = some xs ∧ newL false (cutD xs (some 2) none) S4 Q) = _
      rw [hlo]
      have e : cutD [D.int y0, .int y1, .int y2, .int y3, .int y4] (some 2) none = [.int y2, .int y3, .int y4] := rfl
      simp only [Option.some.injEq, exists_eq_left', e]
      rfl
    show wpSs G [_] _ _ _
    (try simp_arith only [hp4, sl2])
    refine gather_run (by show 3 ≤ sizeLine; decide) ?_
    simp only [gW, DL.lcTurn]
    refine ⟨by simp, ?_⟩
    (try simp_arith only [])
    (repeat (refine And.intro (by first | omega | exact DL.mul_small_left (by omega) (by omega) | exact DL.mul_small_right (by omega) (by omega) | exact DL.div_om (by omega) (by omega) (by omega) | exact DL.cpow1 (by omega) (by omega) | exact ⟨by omega, by omega⟩ | exact DL.len_le (by (try simp only [List.length_map, List.length_append, List.length_cons, List.length_nil]); omega) | exact DL.len_lt (by (try simp only [List.length_map, List.length_append, List.length_cons, List.length_nil]); omega) | trivial | decide) ?_))
    refine hQ _ _ _ _ _ S4 ⟨?_, by omega, ?_, ?_, ?_⟩ hP4 hq4 <;> split <;> omega
end DL

namespace DL
open PySem PySem.Spec PyProof.Rows L2
/-! ### words, bounds, the verdict -/
def wdL : List Str := ["slack", "high", "low", "pace", "push", "n0", "n1", "n2", "n3", "n4", "n5", "n6"]
def wdS (i : Nat) : Str := wdL.getD i ""
def wdK (i : Nat) : Nat := if i < 3 then 0 else i - 2
theorem wd_get : ∀ i, i < 12 → wdL[i]? = some (wdS i) := by decide +kernel
theorem wd_place : ∀ i, i < 12 → inV (.str (wdS i)) [.str "slack", .str "high", .str "low"] = decide (i < 3) := by decide +kernel
theorem wd_three : ∀ i, i < 12 → inV (.str (wdS i)) [.str "slack", .str "pace", .str "push"] = decide (i = 0 ∨ i = 3 ∨ i = 4) := by decide +kernel
theorem wd_high : ∀ i, i < 12 → (wdS i = "high" ↔ i = 1) := by decide +kernel
theorem wd_low : ∀ i, i < 12 → (wdS i = "low" ↔ i = 2) := by decide +kernel
theorem wd_nm : ∀ i, i < 12 → 3 ≤ i → wdS i = nmS (i - 2) := by decide +kernel
theorem wdK_10 {i : Nat} (h : i < 12) : wdK i < 10 := by unfold wdK; split <;> omega
def optD : Option Int → D
  | none => .non
  | some x => .int x
section
variable (bits lo hi sl fa st : Int) (gs : List Int)
def bLo (t i : Nat) : Option Int := match i with
  | 0 => some (-sl)
  | 1 => none
  | 2 => some (lo - gI gs t)
  | 3 => some (-fa)
  | 4 => some (-st)
  | _ => some (-pw2 (bits - 1))
def bHi (t i : Nat) : Option Int := match i with
  | 0 => some sl
  | 1 => some (hi - gI gs t)
  | 2 => none
  | 3 => some fa
  | 4 => some st
  | _ => some (pw2 (bits - 1) - 1)
end
def abv (w : Rat) : Option Int → Bool
  | none => false
  | some x => decide ((x : Rat) < w)
def und (w : Rat) : Option Int → Bool
  | none => false
  | some x => decide (w < (x : Rat))
section
variable (a b f bits l s u : Int) (gs : List Int) (lo hi sl fa st : Int)
def ab (t i : Nat) : Bool := abv (wHi a b f l s u gs (wdK i) t) (bHi bits hi sl fa st gs t i)
def un (t i : Nat) : Bool := und (wLo a b f l s u gs (wdK i) t) (bLo bits lo sl fa st gs t i)
def bad (t i : Nat) : Bool := ab a b f bits l s u gs hi sl fa st t i || un a b f bits l s u gs lo sl fa st t i
def okTo (t i : Nat) : Prop := ∀ t' i', i' < 12 → t' < beats gs (wdK i') → (t' < t ∨ (t' = t ∧ i' < i)) → bad a b f bits l s u gs lo hi sl fa st t' i' = false
def Verd (r : D) : Prop := (∃ t i, i < 12 ∧ t < beats gs (wdK i) ∧ bad a b f bits l s u gs lo hi sl fa st t i = true ∧ okTo a b f bits l s u gs lo hi sl fa st t i ∧ r = .tup [.str "refused", .int t, .str (wdS i), .bl (ab a b f bits l s u gs hi sl fa st t i)]) ∨
  ((∀ t i, i < 12 → t < beats gs (wdK i) → bad a b f bits l s u gs lo hi sl fa st t i = false) ∧ r = .tup [.str "let"])
theorem Verd.uniq {r r' : D} (h : Verd a b f bits l s u gs lo hi sl fa st r) (h' : Verd a b f bits l s u gs lo hi sl fa st r') : r = r' := by
  rcases h with ⟨t, i, h1, h2, h3, h4, rfl⟩ | ⟨h1, rfl⟩
  · rcases h' with ⟨t', i', g1, g2, g3, g4, rfl⟩ | ⟨g1, rfl⟩
    · have e : t = t' ∧ i = i' := by
        apply Classical.byContradiction
        intro z
        by_cases c : t < t' ∨ (t = t' ∧ i < i')
        · have := g4 t i h1 h2 c; rw [h3] at this; cases this
        · have := h4 t' i' g1 g2 (by omega); rw [g3] at this; cases this
      obtain ⟨rfl, rfl⟩ := e
      rfl
    · have := g1 t i h1 h2; rw [h3] at this; cases this
  · rcases h' with ⟨t', i', g1, g2, g3, g4, rfl⟩ | ⟨g1, rfl⟩
    · have := h1 t' i' g1 g2; rw [g3] at this; cases this
    · rfl
end
theorem lt_scale {x v M : Int} {w : Rat} (hM : 0 < M) (hv : (v : Rat) = (M : Rat) * w) : (x * M < v ↔ (x : Rat) < w) ∧ (v < x * M ↔ w < (x : Rat)) := by
  have hc : (0 : Rat) < (M : Rat) := by exact_mod_cast hM
  have e : ((x * M : Int) : Rat) = (M : Rat) * (x : Rat) := by rw [Rat.intCast_mul, Rat.mul_comm]
  constructor
  · constructor
    · intro h
      have h2 : ((x * M : Int) : Rat) < (v : Rat) := by exact_mod_cast h
      rw [e, hv] at h2
      exact Rat.lt_of_mul_lt_mul_left h2 (Rat.le_of_lt hc)
    · intro h
      have h2 : (M : Rat) * (x : Rat) < (M : Rat) * w := Rat.mul_lt_mul_of_pos_left h hc
      rw [← e, ← hv] at h2
      exact_mod_cast h2
  · constructor
    · intro h
      have h2 : (v : Rat) < ((x * M : Int) : Rat) := by exact_mod_cast h
      rw [e, hv] at h2
      exact Rat.lt_of_mul_lt_mul_left h2 (Rat.le_of_lt hc)
    · intro h
      have h2 : (M : Rat) * w < (M : Rat) * (x : Rat) := Rat.mul_lt_mul_of_pos_left h hc
      rw [← e, ← hv] at h2
      exact_mod_cast h2
theorem numDen (w : Rat) : ((w.num : Int) : Rat) = (((w.den : Nat) : Int) : Rat) * w := by
  have hd : ((w.den : Int) : Rat) ≠ 0 := by
    have := w.den_nz
    intro z
    exact this (by exact_mod_cast z)
  have h2 := rat_self w
  grind
/-! ### the program's parts -/
def spBelowW (ds : List D) (S : DStore) (Q : QE) : Prop := ∃ x y z w : Int, ds = [.tup [.int x, .int y], .tup [.int z, .int w]] ∧ x.natAbs < 2 ^ 2000 ∧ y.natAbs < 2 ^ 2000 ∧ z.natAbs < 2 ^ 2000 ∧ w.natAbs < 2 ^ 2000 ∧ Q (.bl (decide (x * w < z * y))) S
theorem spBelowW_len : ∀ ds S Q, spBelowW ds S Q → ds.length = 2 := by rintro _ _ _ ⟨_, _, _, _, rfl, _⟩; rfl
theorem belowW_ok {G : Fns} : ∀ ds S Q, spBelowW ds S Q → wpSs G isBelowC (startD 2 ds) S { nx := fun _ S' => Q .non S', rt := Q } := by
  rintro ds S Q ⟨x, y, z, w, rfl, h1, h2, h3, h4, hQ⟩
  unfold isBelowC
  simp_arith only []
  exact ⟨mul_wide h1 h4 (by decide) (by decide) (by decide), mul_wide h3 h2 (by decide) (by decide) (by decide), hQ⟩
def sizeByC : List CS := [.ret (.ite (.ccmp .In (.var 0) (.tup [(.con (.str "slack")), (.con (.str "high")), (.con (.str "low"))])) (.con (.str "place")) (.var 0))]
def spSizeBy (ds : List D) (S : DStore) (Q : QE) : Prop := ∃ i, ds = [.str (wdS i)] ∧ i < 12 ∧ Q (.str (nmS (wdK i))) S
theorem spSizeBy_len : ∀ ds S Q, spSizeBy ds S Q → ds.length = 1 := by rintro _ _ _ ⟨_, rfl, _⟩; rfl
theorem sizeBy_ok {G : Fns} : ∀ ds S Q, spSizeBy ds S Q → wpSs G sizeByC (startD 1 ds) S { nx := fun _ S' => Q .non S', rt := Q } := by
  rintro ds S Q ⟨i, rfl, hi, hQ⟩
  unfold sizeByC
  simp_arith only []
  refine ⟨_, rfl, rfl, rfl, ?_⟩
  have e2 : inV (toV (.str (wdS i))) (List.map toV [.str "slack", .str "high", .str "low"]) = decide (i < 3) := wd_place i hi
  rw [e2]
  simp only [decide_eq_true_eq]
  refine if_i (fun h => ?_) fun h => ?_
  · rw [show nmS (wdK i) = "place" by unfold wdK; rw [if_pos h]; rfl] at hQ
    exact hQ
  · rw [show nmS (wdK i) = wdS i by unfold wdK; rw [if_neg h]; exact (wd_nm i hi (by omega)).symm] at hQ
    exact hQ
def isAboveC (jb : Nat) : List CS := [.ret (.and_ (.cmp .IsNot (.var 1) (.con .non)) (.call jb [(.tup [(.var 1), (.con (.int 1))]), (.var 0)]))]
def isUnderC (jb : Nat) : List CS := [.ret (.and_ (.cmp .IsNot (.var 1) (.con .non)) (.call jb [(.var 0), (.tup [(.var 1), (.con (.int 1))])]))]
def OptB (o : Option Int) : Prop := ∀ x, o = some x → x.natAbs < 2 ^ 1100
def spAbove (ds : List D) (S : DStore) (Q : QE) : Prop := ∃ w o, ds = [frD w, optD o] ∧ Rk 800 w ∧ OptB o ∧ Q (.bl (abv w o)) S
theorem spAbove_len : ∀ ds S Q, spAbove ds S Q → ds.length = 2 := by rintro _ _ _ ⟨_, _, rfl, _⟩; rfl
def spUnder (ds : List D) (S : DStore) (Q : QE) : Prop := ∃ w o, ds = [frD w, optD o] ∧ Rk 800 w ∧ OptB o ∧ Q (.bl (und w o)) S
theorem spUnder_len : ∀ ds S Q, spUnder ds S Q → ds.length = 2 := by rintro _ _ _ ⟨_, _, rfl, _⟩; rfl
theorem above_ok {G : Fns} {jb : Nat} (hb : G.fn jb = spBelowW) : ∀ ds S Q, spAbove ds S Q → wpSs G (isAboveC jb) (startD 2 ds) S { nx := fun _ S' => Q .non S', rt := Q } := by
  rintro ds S Q ⟨w, o, rfl, hw, ho, hQ⟩
  unfold isAboveC frD
  cases o with
  | none =>
    unfold optD
    simp_arith only []
    exact hQ
  | some x =>
    have hx := ho x rfl
    have hn := hw.n; have hd := hw.d
    unfold optD
    simp_arith only [hb]
    refine ⟨x, 1, w.num, w.den, rfl, lt_up hx (by decide), lt_up (show (1 : Int).natAbs < 2 ^ 1 by decide) (by decide), lt_up hn (by decide), lt_up (show ((w.den : Nat) : Int).natAbs < 2 ^ 800 by simpa using hd) (by decide), ?_⟩
    have e : decide (x * (w.den : Int) < w.num * 1) = abv w (some x) := by
      unfold abv
      rw [Int.mul_one]
      exact decide_eq_decide.mpr (lt_scale (by have := w.den_pos; omega) (numDen w)).1
    rw [e]
    exact hQ
theorem under_ok {G : Fns} {jb : Nat} (hb : G.fn jb = spBelowW) : ∀ ds S Q, spUnder ds S Q → wpSs G (isUnderC jb) (startD 2 ds) S { nx := fun _ S' => Q .non S', rt := Q } := by
  rintro ds S Q ⟨w, o, rfl, hw, ho, hQ⟩
  unfold isUnderC frD
  cases o with
  | none =>
    unfold optD
    simp_arith only []
    exact hQ
  | some x =>
    have hx := ho x rfl
    have hn := hw.n; have hd := hw.d
    unfold optD
    simp_arith only [hb]
    refine ⟨w.num, w.den, x, 1, rfl, lt_up hn (by decide), lt_up (show ((w.den : Nat) : Int).natAbs < 2 ^ 800 by simpa using hd) (by decide), lt_up hx (by decide), lt_up (show (1 : Int).natAbs < 2 ^ 1 by decide) (by decide), ?_⟩
    have e : decide (w.num * 1 < x * (w.den : Int)) = und w (some x) := by
      unfold und
      rw [Int.mul_one]
      exact decide_eq_decide.mpr (lt_scale (by have := w.den_pos; omega) (numDen w)).2
    rw [e]
    exact hQ
def boundsC : List CS := [.asg (.tup [(.name 6), (.name 7), (.name 8), (.name 9), (.name 10)]) (.var 1),
  .asg (.name 5) (.bin .LShift false (.con (.int 1)) (.bin .Sub false (.ix (.var 0) (.con (.int 3))) (.con (.int 1)))),
  .if_ (.ccmp .Eq (.var 3) (.con (.str "high"))) [.ret (.tup [(.con .non), (.bin .Sub false (.var 7) (.ix (.var 2) (.var 4)))])] [],
  .if_ (.ccmp .Eq (.var 3) (.con (.str "low"))) [.ret (.tup [(.bin .Sub false (.var 6) (.ix (.var 2) (.var 4))), (.con .non)])] [],
  .if_ (.ccmp .In (.var 3) (.tup [(.con (.str "slack")), (.con (.str "pace")), (.con (.str "push"))])) [.asg (.name 11) (.kix (.dlit ["slack", "pace", "push"] [(.var 8), (.var 9), (.var 10)]) (.var 3)),
    .ret (.tup [(.neg (.var 11)), (.var 11)])] [],
  .ret (.tup [(.neg (.var 5)), (.bin .Sub false (.var 5) (.con (.int 1)))])]
def spBounds (ds : List D) (S : DStore) (Q : QE) : Prop := ∃ a b f bits lo hi sl fa st gs, ∃ i t : Nat, ds = [hndD a b f bits, fenD lo hi sl fa st, .tup (gs.map D.int), .str (wdS i), .int t] ∧ HOk a b f bits ∧ i < 12 ∧ t < gs.length ∧ ∀ S', Kp S S' → Q (.tup [optD (bLo bits lo sl fa st gs t i), optD (bHi bits hi sl fa st gs t i)]) S'
theorem spBounds_len : ∀ ds S Q, spBounds ds S Q → ds.length = 5 := by rintro _ _ _ ⟨_, _, _, _, _, _, _, _, _, _, _, _, rfl, _⟩; rfl
theorem kp_app2 {S : DStore} {c d : Cell} : Kp S ((S ++ [c]).set S.length d) := fun j e hj => by
  have := (List.getElem?_eq_some_iff.mp hj).1
  rw [List.getElem?_set_ne (by omega), List.getElem?_append_left this]; exact hj
theorem bounds_ok {G : Fns} : ∀ ds S Q, spBounds ds S Q → wpSs G boundsC (startD 12 ds) S { nx := fun _ S' => Q .non S', rt := Q } := by
  rintro ds S Q ⟨a, b, f, bits, lo, hi, sl, fa, st, gs, i, t, rfl, hh, hi12, ht, hQ⟩
  have k1 := hh.k1; have k2 := hh.k2
  have ag := at_g (gs := gs) (i := (t : Int)) (by omega) (by omega)
  have h0 := hQ S (fun _ _ h => h)
  unfold boundsC hndD fenD
  simp_arith only [pw2_one, wd_high i hi12, wd_low i hi12, wd_three i hi12]
  refine ⟨trivial, cpow1 (by omega) (by omega), ?_⟩
  refine if_i (fun h => ?_) fun h1 => ?_
  · subst h
    (try simp_arith only [ag])
    exact h0
  (try simp_arith only [wd_high i hi12, wd_low i hi12, wd_three i hi12])
  refine if_i (fun h => ?_) fun h2 => ?_
  · subst h
    (try simp_arith only [ag])
    exact h0
  (try simp_arith only [wd_high i hi12, wd_low i hi12])
  refine ⟨_, rfl, rfl, rfl, ?_⟩
  have e2 : inV (toV (.str (wdS i))) (List.map toV [.str "slack", .str "pace", .str "push"]) = decide (i = 0 ∨ i = 3 ∨ i = 4) := wd_three i hi12
  rw [e2]
  simp only [decide_eq_true_eq]
  refine if_i (fun h3 => ?_) fun h3 => ?_
  · have cell : ∀ c : Cell, ((S ++ [Cell.dkk []]).set S.length c)[S.length]? = some c := fun c => by rw [List.getElem?_set_self (by simp)]
    (try simp_arith only [])
    rcases h3 with rfl | rfl | rfl
    · exact ⟨by simp, S.length, _, _, _, rfl, dkk_at (cell _), rfl, rfl, _, rfl, hQ _ kp_app2⟩
    · exact ⟨by simp, S.length, _, _, _, rfl, dkk_at (cell _), rfl, rfl, _, rfl, hQ _ kp_app2⟩
    · exact ⟨by simp, S.length, _, _, _, rfl, dkk_at (cell _), rfl, rfl, _, rfl, hQ _ kp_app2⟩
  · (try simp_arith only [])
    have e1 : bLo bits lo sl fa st gs t i = some (-pw2 (bits - 1)) := by
      unfold bLo; split <;> first | rfl | omega
    have e2 : bHi bits hi sl fa st gs t i = some (pw2 (bits - 1) - 1) := by
      unfold bHi; split <;> first | rfl | omega
    rw [e1, e2] at h0
    exact h0
/-! ### the law's parts -/
def sidesC : List CS := [.asg (.name 4) (.and_ (.cmp .IsNot (.var 2) (.con .non)) (.cmp .Gt (.ix (.var 0) (.con (.int 1))) (.bin .Mult false (.var 2) (.var 3)))),
  .ret (.tup [(.var 4), (.and_ (.cmp .IsNot (.var 1) (.con .non)) (.cmp .Lt (.ix (.var 0) (.con (.int 0))) (.bin .Mult false (.var 1) (.var 3))))])]
def sAb (hi M : Int) : Option Int → Bool
  | none => false
  | some x => decide (hi > x * M)
def sUn (lo M : Int) : Option Int → Bool
  | none => false
  | some x => decide (lo < x * M)
def spSides (ds : List D) (S : DStore) (Q : QE) : Prop := ∃ lo hi o1 o2 M, ds = [.tup [.int lo, .int hi], optD o1, optD o2, .int M] ∧ OptB o1 ∧ OptB o2 ∧ M.natAbs < 2 ^ 1000 ∧ Q (.tup [.bl (sAb hi M o2), .bl (sUn lo M o1)]) S
theorem spSides_len : ∀ ds S Q, spSides ds S Q → ds.length = 4 := by rintro _ _ _ ⟨_, _, _, _, _, rfl, _⟩; rfl
theorem sides_ok {G : Fns} : ∀ ds S Q, spSides ds S Q → wpSs G sidesC (startD 5 ds) S { nx := fun _ S' => Q .non S', rt := Q } := by
  rintro ds S Q ⟨lo, hi, o1, o2, M, rfl, h1, h2, hM, hQ⟩
  have mo : ∀ {o : Option Int} {x : Int}, OptB o → o = some x → MulOk x M := fun h e => mul_wide (h _ e) hM (by decide) (by decide) (by decide)
  unfold sidesC
  cases o1 with
  | none =>
    cases o2 with
    | none => unfold optD; simp_arith only []; exact hQ
    | some y => unfold optD; simp_arith only []; exact ⟨mo h2 rfl, hQ⟩
  | some x =>
    cases o2 with
    | none => unfold optD; simp_arith only []; exact ⟨mo h1 rfl, hQ⟩
    | some y => unfold optD; simp_arith only []; exact ⟨mo h2 rfl, mo h1 rfl, hQ⟩
def checksC : List CS := [.asg (.tup [(.name 5), (.name 6), (.name 7), (.name 8), (.name 9)]) (.var 1),
  .asg (.tup [(.name 10), (.name 11)]) (.tup [(.bin .LShift false (.con (.int 1)) (.bin .Sub false (.ix (.var 0) (.con (.int 3))) (.con (.int 1)))), (.ix (.var 2) (.var 3))]),
  .asg (.name 4) (.lst false [(.tup [(.con (.str "slack")), (.con (.int 0)), (.bin .Sub false (.con (.int 0)) (.var 7)), (.var 7)]), (.tup [(.con (.str "high")), (.con (.int 0)), (.con .non), (.bin .Sub false (.var 6) (.var 11))]), (.tup [(.con (.str "low")), (.con (.int 0)), (.bin .Sub false (.var 5) (.var 11)), (.con .non)])]),
  .if_ (.ccmp .Eq (.var 3) (.bin .Sub false (.bi .len false [(.var 2)]) (.con (.int 1)))) [.ret (.var 4)] [],
  .asg (.name 4) (.bin .Add false (.var 4) (.lst false [(.tup [(.con (.str "pace")), (.con (.int 1)), (.bin .Sub false (.con (.int 0)) (.var 8)), (.var 8)]), (.tup [(.con (.str "push")), (.con (.int 2)), (.bin .Sub false (.con (.int 0)) (.var 9)), (.var 9)])])),
  .ret (.bin .Add false (.var 4) (.lc false (.tup [(.bin .Add false (.con (.str "n")) (.bi .str1 false [(.var 12)])), (.bin .Add false (.con (.int 3)) (.var 12)), (.bin .Sub false (.con (.int 0)) (.var 10)), (.bin .Sub false (.var 10) (.con (.int 1)))]) (.name 12) (.range1 (.con (.int 7))) [] [12]))]
def chkD (bits lo hi sl fa st : Int) (gs : List Int) (t i : Nat) : D := .tup [.str (wdS i), .int (wdK i), optD (bLo bits lo sl fa st gs t i), optD (bHi bits hi sl fa st gs t i)]
def chkN (gs : List Int) (t : Nat) : Nat := if t = gs.length - 1 then 3 else 12
def spChecks (ds : List D) (S : DStore) (Q : QE) : Prop := ∃ a b f bits lo hi sl fa st gs, ∃ t : Nat, ds = [hndD a b f bits, fenD lo hi sl fa st, .tup (gs.map D.int), .int t] ∧ HOk a b f bits ∧ t < gs.length ∧ Q (.lst ((List.range (chkN gs t)).map (chkD bits lo hi sl fa st gs t))) S
theorem spChecks_len : ∀ ds S Q, spChecks ds S Q → ds.length = 4 := by rintro _ _ _ ⟨_, _, _, _, _, _, _, _, _, _, _, rfl, _⟩; rfl
theorem checks_ok {G : Fns} : ∀ ds S Q, spChecks ds S Q → wpSs G checksC (startD 13 ds) S { nx := fun _ S' => Q .non S', rt := Q } := by
  rintro ds S Q ⟨a, b, f, bits, lo, hi, sl, fa, st, gs, t, rfl, hh, ht, hQ⟩
  have k1 := hh.k1; have k2 := hh.k2
  have ag := at_g (gs := gs) (i := (t : Int)) (by omega) (by omega)
  unfold checksC hndD fenD
  simp_arith only [pw2_one, ag, List.length_map, Int.zero_sub]
  refine ⟨trivial, cpow1 (by omega) (by omega), trivial, ?_⟩
  refine if_i (fun h => ?_) fun h => ?_
  · have e : chkN gs t = 3 := by unfold chkN; rw [if_pos (by omega)]
    rw [e] at hQ
    exact hQ
  · have e : chkN gs t = 12 := by unfold chkN; rw [if_neg (by omega)]
    rw [e] at hQ
    (try simp_arith only [Int.zero_sub])
    refine ⟨by decide, ⟨by decide, by decide⟩, ?_⟩
    refine gather_range (fun x => D.tup [.str ("n" ++ toString x), .int (3 + x), .int (-pw2 (bits - 1)), .int (pw2 (bits - 1) - 1)]) (by show 7 ≤ sizeLine; decide) trivial (fun x x0 x1 N hN => ?_) ?_
    · have hs : x.natAbs.log2 < 1920 := PySem.Flt.log2_lt_of (by decide) (lt_up (show x.natAbs < 2 ^ 3 by omega) (by decide))
      unfold lcTurn
      (try simp_arith only [Int.zero_sub])
      refine ⟨x, rfl, hs, ?_⟩
      (try simp_arith only [])
      refine ⟨len_le ?_, hN⟩
      have : x = 0 ∨ x = 1 ∨ x = 2 ∨ x = 3 ∨ x = 4 ∨ x = 5 ∨ x = 6 := by omega
      rcases this with rfl | rfl | rfl | rfl | rfl | rfl | rfl <;> decide
    · (try simp_arith only [])
      exact ⟨len_le (by rw [List.length_map, rng_len]; decide), hQ⟩
end DL

namespace DL
open PySem PySem.Spec PyProof.Rows L2
theorem s_ab {v M : Int} {w : Rat} (hM : 0 < M) (hv : (v : Rat) = (M : Rat) * w) (o : Option Int) : sAb v M o = abv w o := by
  cases o with
  | none => rfl
  | some x => exact decide_eq_decide.mpr (lt_scale hM hv).1
theorem s_un {v M : Int} {w : Rat} (hM : 0 < M) (hv : (v : Rat) = (M : Rat) * w) (o : Option Int) : sUn v M o = und w o := by
  cases o with
  | none => rfl
  | some x => exact decide_eq_decide.mpr (lt_scale hM hv).2
section
variable {a b f bits l s u : Int} {gs : List Int} {lo hi sl fa st : Int}
theorem half_bd (hh : HOk a b f bits) : 0 < pw2 (bits - 1) ∧ pw2 (bits - 1) ≤ 2 ^ 40 := by
  have k1 := hh.k1; have k2 := hh.k2
  exact ⟨pw2_pos _, pw2_le (k := 40) (by omega)⟩
theorem optB_lo (hh : HOk a b f bits) (hg : GsOk 8 gs) (hf : FB lo hi sl fa st) {t i : Nat} : OptB (bLo bits lo sl fa st gs t i) := fun x hx => by
  have h1 := half_bd hh
  have h2 := gI_600 hg t
  have f1 := hf.lo; have f3 := hf.sl; have f4 := hf.fa; have f5 := hf.st
  unfold bLo at hx
  split at hx <;> first | (cases hx; done) | (cases hx; omega)
theorem optB_hi (hh : HOk a b f bits) (hg : GsOk 8 gs) (hf : FB lo hi sl fa st) {t i : Nat} : OptB (bHi bits hi sl fa st gs t i) := fun x hx => by
  have h1 := half_bd hh
  have h2 := gI_600 hg t
  have f1 := hf.hi; have f3 := hf.sl; have f4 := hf.fa; have f5 := hf.st
  unfold bHi at hx
  split at hx <;> first | (cases hx; done) | (cases hx; omega)
theorem okTo.next {t i : Nat} (h : okTo a b f bits l s u gs lo hi sl fa st t i) (hb : t < beats gs (wdK i) → bad a b f bits l s u gs lo hi sl fa st t i = false) : okTo a b f bits l s u gs lo hi sl fa st t (i + 1) := fun t' i' h1 h2 h3 => by
  by_cases e : t' = t ∧ i' = i
  · obtain ⟨rfl, rfl⟩ := e; exact hb h2
  · exact h t' i' h1 h2 (by omega)
theorem okTo.row {t i : Nat} (h : okTo a b f bits l s u gs lo hi sl fa st t i) (hx : ∀ i', i' < 12 → t < beats gs (wdK i') → i' < i) : okTo a b f bits l s u gs lo hi sl fa st (t + 1) 0 := fun t' i' h1 h2 h3 => by
  by_cases e : t' = t
  · subst e; exact h t' i' h1 h2 (.inr ⟨rfl, hx i' h1 h2⟩)
  · exact h t' i' h1 h2 (by omega)
theorem okTo.zero : okTo a b f bits l s u gs lo hi sl fa st 0 0 := fun t' i' _ _ h => by omega
theorem okTo.all (h : okTo a b f bits l s u gs lo hi sl fa st gs.length 0) : Verd a b f bits l s u gs lo hi sl fa st (.tup [.str "let"]) :=
  .inr ⟨fun t i h1 h2 => h t i h1 h2 (.inl (by unfold beats at h2; split at h2 <;> omega)), rfl⟩
end
def letLC (jc js : Nat) : List CS := [.for_ (.name 5) (.range1 (.bi .len false [(.var 2)])) [.for_ (.tup [(.name 6), (.name 7), (.name 8), (.name 9)]) (.seq (.call jc [(.var 0), (.var 1), (.var 2), (.var 5)])) [.asg (.tup [(.name 10), (.name 11)]) (.call js [(.ix (.var 3) (.tup [(.var 7), (.var 5)])), (.var 8), (.var 9), (.var 4)]),
    .if_ (.cor (.cval (.var 10)) (.cval (.var 11))) [.ret (.tup [(.con (.str "refused")), (.var 5), (.var 6), (.var 10)])] []]],
  .ret (.tup [(.con (.str "let"))])]
def spLetL (ds : List D) (S : DStore) (Q : QE) : Prop := ∃ a b f bits bits0 l s u gs q kvs lo hi sl fa st, ds = [hndD a b f bits, fenD lo hi sl fa st, .tup (gs.map D.int), .ref q, .int (unitU f gs * pw2 f)] ∧ HB a b f bits ∧ LB l s u ∧ GsOk 8 gs ∧ Rch a b f bits0 l s u gs q S kvs ∧ FB lo hi sl fa st ∧ ∀ r, Verd a b f bits l s u gs lo hi sl fa st r → Q r S
theorem spLetL_len : ∀ ds S Q, spLetL ds S Q → ds.length = 5 := by rintro _ _ _ ⟨_, _, _, _, _, _, _, _, _, _, _, _, _, _, _, _, rfl, _⟩; rfl
theorem chk_b {gs : List Int} {t i : Nat} (h2 : 2 ≤ gs.length) (ht : t < gs.length) (hi : i < chkN gs t) : i < 12 ∧ t < beats gs (wdK i) := by
  unfold chkN at hi
  unfold beats
  split at hi
  · have e : wdK i = 0 := by unfold wdK; rw [if_pos hi]
    exact ⟨by omega, by rw [if_pos e]; exact ht⟩
  · refine ⟨hi, ?_⟩
    split <;> omega
theorem letL_ok {G : Fns} {jc js : Nat} (hc : G.fn jc = spChecks) (hs : G.fn js = spSides) : ∀ ds S Q, spLetL ds S Q → wpSs G (letLC jc js) (startD 12 ds) S { nx := fun _ S' => Q .non S', rt := Q } := by
  rintro ds S Q ⟨a, b, f, bits, bits0, l, s, u, gs, q, kvs, lo, hi, sl, fa, st, rfl, hh, hl, hg, hR, hf, hQ⟩
  have g1 := hg.two
  have g2 := hg.most
  obtain ⟨M0, MB⟩ := M_bd (f := f) (gs := gs) hh.h.f1 hh.h.f2 (by omega)
  generalize hMM : unitU f gs * pw2 f = M at *
  have hd := hR.dct
  unfold letLC
  simp_arith only [List.length_map]
  refine ⟨⟨by omega, by omega⟩, ?_⟩
  refine walk_range (fun t ρ S' => ∃ (r5 r6 r7 r8 r9 r10 r11 : Option D), ρ = [some (hndD a b f bits), some (fenD lo hi sl fa st), some (.tup (gs.map D.int)), some (.ref q), some (.int M), r5, r6, r7, r8, r9, r10, r11] ∧ S' = S ∧ okTo a b f bits l s u gs lo hi sl fa st t 0)
    ⟨_, _, _, _, _, _, _, rfl, rfl, okTo.zero⟩ (fun _ _ _ _ => trivial) (fun t ρ S' ht hp => ?_) (fun ρ S' hp => ?_)
  · obtain ⟨r5, r6, r7, r8, r9, r10, r11, rfl, rfl, hO⟩ := hp
    have ht' : t < gs.length := by omega
    unfold DL.forTurn
    (try simp_arith only [hc, Int.zero_add])
    refine ⟨a, b, f, bits, lo, hi, sl, fa, st, gs, t, rfl, hh.h, ht', ?_⟩
    (try simp_arith only [])
    refine walk_list (fun i ρ S2 => ∃ (r6 r7 r8 r9 r10 r11 : Option D), ρ = [some (hndD a b f bits), some (fenD lo hi sl fa st), some (.tup (gs.map D.int)), some (.ref q), some (.int M), some (.int t), r6, r7, r8, r9, r10, r11] ∧ S2 = S' ∧ okTo a b f bits l s u gs lo hi sl fa st t i)
      ⟨_, _, _, _, _, _, rfl, rfl, hO⟩ (fun _ _ _ _ => trivial) (fun i x ρ S2 hx hp => ?_) (fun ρ S2 hp => ?_)
    · obtain ⟨r6, r7, r8, r9, r10, r11, rfl, rfl, hO⟩ := hp
      have hi0 := (List.getElem?_eq_some_iff.mp hx).1
      rw [List.length_map, List.length_range] at hi0
      rw [List.getElem?_map, List.getElem?_range hi0] at hx
      cases hx
      obtain ⟨i12, tb⟩ := chk_b g1 ht' hi0
      obtain ⟨gv, rv⟩ := hR.get (wdK_10 i12) tb
      have eA : sAb (rcHi kvs (wdK i) t) M (bHi bits hi sl fa st gs t i) = ab a b f bits l s u gs hi sl fa st t i := s_ab M0 (by rw [rv.hi, hMM]) _
      have eU : sUn (rcLo kvs (wdK i) t) M (bLo bits lo sl fa st gs t i) = un a b f bits l s u gs lo sl fa st t i := s_un M0 (by rw [rv.lo, hMM]) _
      unfold DL.forTurn chkD
      (try simp_arith only [])
      refine ⟨trivial, kvs, kyR (wdK i) t, _, hd, rfl, gv, ?_⟩
      rw [hs]
      refine ⟨_, _, _, _, M, rfl, optB_lo hh.h hg hf, optB_hi hh.h hg hf, lt_up MB (by decide), ?_⟩
      rw [eA, eU]
      have hbad : bad a b f bits l s u gs lo hi sl fa st t i = (ab a b f bits l s u gs hi sl fa st t i || un a b f bits l s u gs lo sl fa st t i) := rfl
      cases hA : ab a b f bits l s u gs hi sl fa st t i with
      | true =>
        (try simp_arith only [])
        refine ⟨trivial, ?_⟩
        refine hQ _ (.inl ⟨t, i, i12, tb, by rw [hbad, hA]; rfl, hO, by rw [hA]⟩)
      | false =>
        cases hU : un a b f bits l s u gs lo sl fa st t i with
        | true =>
          (try simp_arith only [])
          refine ⟨trivial, ?_⟩
          refine hQ _ (.inl ⟨t, i, i12, tb, by rw [hbad, hA, hU]; rfl, hO, by rw [hA]⟩)
        | false =>
          (try simp_arith only [])
          refine ⟨trivial, _, _, _, _, _, _, rfl, trivial, hO.next fun _ => by rw [hbad, hA, hU]; rfl⟩
    · obtain ⟨r6, r7, r8, r9, r10, r11, rfl, rfl, hO⟩ := hp
      simp only [s_nilA]
      rw [List.length_map, List.length_range] at hO
      refine ⟨_, _, _, _, _, _, _, rfl, trivial, hO.row fun i' h1 h2 => ?_⟩
      unfold chkN
      unfold beats wdK at h2
      split
      · split at h2 <;> split at h2 <;> omega
      · exact h1
  · obtain ⟨r5, r6, r7, r8, r9, r10, r11, rfl, rfl, hO⟩ := hp
    rw [show ((gs.length : Int) - 0).toNat = gs.length by omega] at hO
    (try simp_arith only [])
    exact hQ _ hO.all
/-! ### the program's verdict -/
def letC (je jz jb jo ja ju g1 g2 : Nat) : List CS := [.setLc 4 (.dcomp (.var 7) (.call je [(.var 0), (.var 1), (.var 3), (.var 7)]) (.name 7) (.seq (.glo g1)) [7]),
  .for_ (.name 5) (.range1 (.bi .len false [(.var 3)])) [.for_ (.name 6) (.seq (.glo g2)) [.asg (.name 7) (.call jz [(.var 6)]),
    .if_ (.ccmp .Lt (.var 5) (.call jb [(.var 3), (.var 7)])) [.asg (.tup [(.name 8), (.name 9)]) (.ix (.kix (.var 4) (.var 7)) (.var 5)),
    .asg (.tup [(.name 10), (.name 11)]) (.call jo [(.var 0), (.var 2), (.var 3), (.var 6), (.var 5)]),
    .if_ (.cor (.cval (.call ja [(.var 9), (.var 11)])) (.cval (.call ju [(.var 8), (.var 10)]))) [.ret (.tup [(.con (.str "refused")), (.var 5), (.var 6), (.call ja [(.var 9), (.var 11)])])] []] []]],
  .ret (.tup [(.con (.str "let"))])]
def spLet (ds : List D) (S : DStore) (Q : QE) : Prop := ∃ a b f bits l s u gs lo hi sl fa st, ds = [hndD a b f bits, letsD l s u, fenD lo hi sl fa st, .tup (gs.map D.int)] ∧ HB a b f bits ∧ LB l s u ∧ GsOk 8 gs ∧ FB lo hi sl fa st ∧ ∀ r S', Verd a b f bits l s u gs lo hi sl fa st r → Kp S S' → Q r S'
theorem spLet_len : ∀ ds S Q, spLet ds S Q → ds.length = 4 := by rintro _ _ _ ⟨_, _, _, _, _, _, _, _, _, _, _, _, _, rfl, _⟩; rfl
theorem nm_inj : ∀ i, i < 10 → ∀ j, j < 10 → nmS i = nmS j → i = j := by decide +kernel
theorem let_ok {G : Fns} {je jz jb jo ja ju g1 g2 : Nat} (he : G.fn je = spEbb) (hz : G.fn jz = spSizeBy) (hb : G.fn jb = spBeats) (ho : G.fn jo = spBounds) (ha : G.fn ja = spAbove) (hu : G.fn ju = spUnder) (hG1 : G.gl g1 = .tup (szN.map D.str)) (hG2 : G.gl g2 = .tup (wdL.map D.str)) :
    ∀ ds S Q, spLet ds S Q → wpSs G (letC je jz jb jo ja ju g1 g2) (startD 12 ds) S { nx := fun _ S' => Q .non S', rt := Q } := by
  rintro ds S0 Q ⟨a, b, f, bits, l, s, u, gs, lo, hi, sl, fa, st, rfl, hh, hl, hg, hf, hQ⟩
  have l1 := hg.two
  have l2 := hg.most
  have rk : ∀ {k t : Nat}, k < 10 → t < gs.length → Rk 800 (wLo a b f l s u gs k t) ∧ Rk 800 (wHi a b f l s u gs k t) := fun hk ht => rk_wW (bits := bits) hh hl (fun x hx => by have := hg.bd x hx; omega) hk (by omega)
  refine ss_split 1 (fun ρ S => ∃ pd kvs, ρ = [some (hndD a b f bits), some (letsD l s u), some (fenD lo hi sl fa st), some (.tup (gs.map D.int)), some (.ref pd), none, none, none, none, none, none, none] ∧ Kp S0 S ∧ S[pd]? = some (.dkk kvs) ∧ ∀ k, k < 10 → ∃ p, valD kvs (.inr (nmS k)) = some (.ref p) ∧ S[p]? = some (.lst ((List.range (beats gs k)).map (ebbD a b f l s u gs k)))) (fun N hN => ?_) ?_
  · show wpSs G [_] [some (hndD a b f bits), some (letsD l s u), some (fenD lo hi sl fa st), some (.tup (gs.map D.int)), none, none, none, none, none, none, none, none] _ _
    simp_arith only [e_dcomp, hG1]
    refine ⟨fun i acc S => Kp S0 S ∧ i ≤ 10 ∧ acc.length ≤ i ∧ ∀ k, k < i → ∃ p, valD acc (.inr (nmS k)) = some (.ref p) ∧ S[p]? = some (.lst ((List.range (beats gs k)).map (ebbD a b f l s u gs k))), ⟨fun _ _ h => h, by omega, by simp, fun k h => absurd h (by omega)⟩, (fun i acc S h => ⟨trivial, h.2.1⟩), (fun i x acc S h hx => ?_), fun acc S h => ?_⟩
    · obtain ⟨hK, h10, hlen, hv⟩ := h
      have hi0 := (List.getElem?_eq_some_iff.mp hx).1
      have hi10 : i < 10 := by rw [List.length_map] at hi0; exact hi0
      rw [List.getElem?_map, (nm_at i hi10).1] at hx
      cases hx
      (try simp_arith only [he])
      refine ⟨a, b, f, bits, l, s, u, gs, i, rfl, ⟨hh, hl, l1, by omega, fun x hx => by have := hg.bd x hx; omega, hi10⟩, fun p S' k' hp => ?_⟩
      refine ⟨.inr (nmS i), rfl, len_lt (by omega), hK.trans k', by omega, Nat.le_trans len_put (by omega), fun k hk => ?_⟩
      by_cases e : k = i
      · subst e
        exact ⟨p, by rw [valD_put, if_pos rfl], hp⟩
      · obtain ⟨p', h1, h2⟩ := hv k (by omega)
        refine ⟨p', ?_, k' _ _ h2⟩
        rw [valD_put, if_neg (fun z => e (nm_inj k (by omega) i hi10 (by simpa using z)))]
        exact h1
    · obtain ⟨hK, h10, hlen, hv⟩ := h
      have kp : Kp S (S ++ [Cell.dkk acc]) := fun j c hj => by rw [List.getElem?_append_left (List.getElem?_eq_some_iff.mp hj).1]; exact hj
      refine hN _ _ ⟨S.length, acc, rfl, hK.trans kp, by simp, fun k hk => ?_⟩
      obtain ⟨p, h1, h2⟩ := hv k (by rw [List.length_map]; exact hk)
      exact ⟨p, h1, kp _ _ h2⟩
  rintro ρ S1 ⟨pd, kvs, rfl, hK1, hpd, hv⟩
  show wpSs G [_, _] _ _ _
  simp_arith only [List.length_map]
  refine ⟨⟨by omega, by omega⟩, ?_⟩
  refine walk_range (fun t ρ S => ∃ (r5 r6 r7 r8 r9 r10 r11 : Option D), ρ = [some (hndD a b f bits), some (letsD l s u), some (fenD lo hi sl fa st), some (.tup (gs.map D.int)), some (.ref pd), r5, r6, r7, r8, r9, r10, r11] ∧ Kp S1 S ∧ okTo a b f bits l s u gs lo hi sl fa st t 0)
    ⟨_, _, _, _, _, _, _, rfl, (fun _ _ h => h), okTo.zero⟩ (fun _ _ _ _ => trivial) (fun t ρ S ht hp => ?_) (fun ρ S hp => ?_)
  · obtain ⟨r5, r6, r7, r8, r9, r10, r11, rfl, hK, hO⟩ := hp
    have ht' : t < gs.length := by omega
    unfold DL.forTurn
    (try simp_arith only [hG2, Int.zero_add])
    refine walk_list (fun i ρ S => ∃ (r6 r7 r8 r9 r10 r11 : Option D), ρ = [some (hndD a b f bits), some (letsD l s u), some (fenD lo hi sl fa st), some (.tup (gs.map D.int)), some (.ref pd), some (.int t), r6, r7, r8, r9, r10, r11] ∧ Kp S1 S ∧ okTo a b f bits l s u gs lo hi sl fa st t i)
      ⟨_, _, _, _, _, _, rfl, hK, hO⟩ (fun _ _ _ _ => trivial) (fun i x ρ S hx hp => ?_) (fun ρ S hp => ?_)
    · obtain ⟨r6, r7, r8, r9, r10, r11, rfl, hK, hO⟩ := hp
      have hi0 := (List.getElem?_eq_some_iff.mp hx).1
      have i12 : i < 12 := by rw [List.length_map] at hi0; exact hi0
      rw [List.getElem?_map, wd_get i i12] at hx
      cases hx
      have k10 := wdK_10 i12
      unfold DL.forTurn
      (try simp_arith only [hz])
      refine ⟨i, rfl, i12, ?_⟩
      (try simp_arith only [hb])
      refine ⟨gs, wdK i, rfl, k10, by omega, ?_⟩
      (try simp_arith only [])
      refine if_i (fun htb => ?_) fun htb => ?_
      · have tb : t < beats gs (wdK i) := by omega
        obtain ⟨p, hp1, hp2⟩ := hv (wdK i) k10
        have hp3 := hK _ _ hp2
        have het : ((List.range (beats gs (wdK i))).map (ebbD a b f l s u gs (wdK i)))[t]? = some (ebbD a b f l s u gs (wdK i) t) := by rw [List.getElem?_map, List.getElem?_range tb]; rfl
        have hat : atI ((List.range (beats gs (wdK i))).map (ebbD a b f l s u gs (wdK i))) (t : Int) = some (ebbD a b f l s u gs (wdK i) t) := atI_nat' (by omega) (by simpa using het)
        have rk2 := rk k10 ht'
        (try simp_arith only [])
        refine ⟨pd, kvs, .inr (nmS (wdK i)), .ref p, rfl, dkk_at (hK _ _ hpd), rfl, hp1, ?_⟩
        (try simp_arith only [hp3, hat])
        unfold ebbD
        (try simp_arith only [ho])
        refine ⟨trivial, a, b, f, bits, lo, hi, sl, fa, st, gs, i, t, rfl, hh.h, i12, ht', fun S2 k2 => ?_⟩
        (try simp_arith only [ha])
        refine ⟨trivial, _, _, rfl, rk2.2, optB_hi hh.h hg hf, ?_⟩
        have hbad : bad a b f bits l s u gs lo hi sl fa st t i = (ab a b f bits l s u gs hi sl fa st t i || un a b f bits l s u gs lo sl fa st t i) := rfl
        have eA : abv (wHi a b f l s u gs (wdK i) t) (bHi bits hi sl fa st gs t i) = ab a b f bits l s u gs hi sl fa st t i := rfl
        have eU : und (wLo a b f l s u gs (wdK i) t) (bLo bits lo sl fa st gs t i) = un a b f bits l s u gs lo sl fa st t i := rfl
        rw [eA]
        cases hA : ab a b f bits l s u gs hi sl fa st t i with
        | true =>
          (try simp_arith only [ha])
          refine ⟨_, _, rfl, rk2.2, optB_hi hh.h hg hf, ?_⟩
          rw [eA, hA]
          exact hQ _ _ (.inl ⟨t, i, i12, tb, by rw [hbad, hA]; rfl, hO, by rw [hA]⟩) ((hK1.trans hK).trans k2)
        | false =>
          (try simp_arith only [hu])
          refine ⟨_, _, rfl, rk2.1, optB_lo hh.h hg hf, ?_⟩
          rw [eU]
          cases hU : un a b f bits l s u gs lo sl fa st t i with
          | true =>
            (try simp_arith only [ha])
            refine ⟨_, _, rfl, rk2.2, optB_hi hh.h hg hf, ?_⟩
            rw [eA, hA]
            exact hQ _ _ (.inl ⟨t, i, i12, tb, by rw [hbad, hA, hU]; rfl, hO, by rw [hA]⟩) ((hK1.trans hK).trans k2)
          | false =>
            (try simp_arith only [])
            exact ⟨_, _, _, _, _, _, rfl, hK.trans k2, hO.next fun _ => by rw [hbad, hA, hU]; rfl⟩
      · exact ⟨_, _, _, _, _, _, rfl, hK, hO.next fun h => absurd h (by omega)⟩
    · obtain ⟨r6, r7, r8, r9, r10, r11, rfl, hK, hO⟩ := hp
      simp only [s_nilA]
      rw [List.length_map] at hO
      exact ⟨_, _, _, _, _, _, _, rfl, hK, hO.row fun i' h1 h2 => h1⟩
  · obtain ⟨r5, r6, r7, r8, r9, r10, r11, rfl, hK, hO⟩ := hp
    rw [show ((gs.length : Int) - 0).toNat = gs.length by omega] at hO
    (try simp_arith only [])
    exact hQ _ _ hO.all (hK1.trans hK)
end DL

namespace Law_k42
open PySem PySem.Spec PyProof.Rows L2 DL
def topS (i : Nat) : Stmt := PySem.Challenge.pw_drivenwheels_k42_let_or_refused.main.body.getD i (.Pass ⟨0, 0, 0, 0⟩)
abbrev s0 : Stmt := topS 1
def n0 : List Str := ["one", "other"]
def p0 : List Str := ["one", "other"]
theorem sc0 : FnScope n0 p0 (L2.defScope s0) := ⟨rfl, rfl, rfl, by decide +kernel, rfl, by decide +kernel, by decide +kernel⟩
/-- common -/
def c0 : List CS := [.while_ (.ccmp .NotEq (.var 1) (.con (.int 0))) [.par2 0 1 (.var 1) (.bin .Mod false (.var 0) (.var 1))],
  .ret (.bi .abs false [(.var 0)])]
abbrev s1 : Stmt := topS 2
def n1 : List Str := ["n", "d", "both"]
def p1 : List Str := ["n", "d"]
theorem sc1 : FnScope n1 p1 (L2.defScope s1) := ⟨rfl, rfl, rfl, by decide +kernel, rfl, by decide +kernel, by decide +kernel⟩
/-- made -/
def c1 : List CS := [.asg (.name 2) (.call 0 [(.var 0), (.var 1)]),
  .if_ (.ccmp .Lt (.var 1) (.con (.int 0))) [.asg (.name 2) (.neg (.var 2))] [],
  .ret (.tup [(.bin .FloorDiv false (.var 0) (.var 2)), (.bin .FloorDiv false (.var 1) (.var 2))])]
abbrev s2 : Stmt := topS 3
def n2 : List Str := ["one", "other"]
def p2 : List Str := ["one", "other"]
theorem sc2 : FnScope n2 p2 (L2.defScope s2) := ⟨rfl, rfl, rfl, by decide +kernel, rfl, by decide +kernel, by decide +kernel⟩
/-- is_below -/
def c2 : List CS := [.ret (.cmp .Lt (.bin .Mult false (.ix (.var 0) (.con (.int 0))) (.ix (.var 1) (.con (.int 1)))) (.bin .Mult false (.ix (.var 1) (.con (.int 0))) (.ix (.var 0) (.con (.int 1)))))]
abbrev s3 : Stmt := topS 5
def n3 : List Str := ["wishes", "t", "pace", "later"]
def p3 : List Str := ["wishes", "t"]
theorem sc3 : FnScope n3 p3 (L2.defScope s3) := ⟨rfl, rfl, rfl, by decide +kernel, rfl, by decide +kernel, by decide +kernel⟩
/-- wish_at -/
def c3 : List CS := [.asg (.name 2) (.ite (.ccmp .Gt (.var 1) (.con (.int 0))) (.bin .Sub false (.ix (.var 0) (.var 1)) (.ix (.var 0) (.bin .Sub false (.var 1) (.con (.int 1))))) (.con (.int 0))),
  .asg (.name 3) (.ite (.ccmp .Lt (.bin .Add false (.var 1) (.con (.int 1))) (.bi .len false [(.var 0)])) (.bin .Sub false (.ix (.var 0) (.bin .Add false (.var 1) (.con (.int 1)))) (.ix (.var 0) (.var 1))) (.con (.int 0))),
  .ret (.tup [(.ix (.var 0) (.var 1)), (.var 2), (.bin .Sub false (.var 3) (.var 2))])]
abbrev s4 : Stmt := topS 9
def n4 : List Str := ["hand", "many"]
def p4 : List Str := ["hand", "many"]
theorem sc4 : FnScope n4 p4 (L2.defScope s4) := ⟨rfl, rfl, rfl, by decide +kernel, rfl, by decide +kernel, by decide +kernel⟩
/-- unit_of -/
def c4 : List CS := [.ret (.bin .LShift false (.con (.int 1)) (.bin .Mult false (.ix (.var 0) (.con (.int 2))) (.bin .Add false (.var 1) (.con (.int 1)))))]
abbrev s5 : Stmt := topS 10
def n5 : List Str := ["hand", "kind", "many", "one", "found", "k", "first", "second", "f", "bits", "place", "pace", "read", "off", "step_off", "both", "push", "load", "slip", "misreading", "loss", "own"]
def p5 : List Str := ["hand", "kind", "many"]
theorem sc5 : FnScope n5 p5 (L2.defScope s5) := ⟨rfl, rfl, rfl, by decide +kernel, rfl, by decide +kernel, by decide +kernel⟩
/-- answers_to -/
def c5 : List CS := [.asg (.tup [(.name 6), (.name 7), (.name 8), (.name 9)]) (.var 0),
  .asg (.name 3) (.call 4 [(.var 0), (.var 2)]),
  .asg (.tup [(.name 10), (.name 11), (.name 12)]) (.tup [(.con (.int 0)), (.con (.int 0)), (.con (.int 0))]),
  .asg (.name 4) (.lst true []),
  .for_ (.name 5) (.range1 (.bin .Add false (.var 2) (.con (.int 1)))) [.asg (.tup [(.name 17), (.name 18), (.name 19), (.name 20)]) (.lc false (.bin .Mult false (.var 3) (.bi .int1 false [(.and_ (.cmp .Eq (.var 5) (.con (.int 0))) (.cmp .Eq (.var 1) (.var 21)))])) (.name 21) (.range1 (.glo 0)) [] [21]),
    .asg (.name 13) (.bin .Add false (.var 10) (.var 19)),
    .asg (.name 14) (.bin .Sub false (.var 13) (.var 12)),
    .asg (.name 15) (.bin .Add false (.bin .Mult false (.var 6) (.var 13)) (.bin .Mult false (.var 7) (.var 14))),
    .asg (.name 16) (.bin .Sub false (.var 20) (.bin .RShift false (.var 15) (.var 8))),
    .aug 11 .Add (.bin .Add false (.var 16) (.var 17)),
    .append (.var 4) (.tup [(.var 10), (.bin .Add false (.var 11) (.var 18)), (.var 16), (.var 13), (.var 14), (.bin .Mult false (.var 6) (.var 13)), (.bin .Mult false (.var 7) (.var 14)), (.var 15), (.neg (.var 16)), (.var 16)]),
    .par2 10 12 (.bin .Add false (.bin .Add false (.var 10) (.var 11)) (.var 18)) (.var 13)],
  .ret (.var 4)]
abbrev s6 : Stmt := topS 11
def n6 : List Str := ["hand", "many", "kind"]
def p6 : List Str := ["hand", "many"]
theorem sc6 : FnScope n6 p6 (L2.defScope s6) := ⟨rfl, rfl, rfl, by decide +kernel, rfl, by decide +kernel, by decide +kernel⟩
/-- answers -/
def c6 : List CS := [.ret (.lc false (.call 5 [(.var 0), (.var 2), (.var 1)]) (.name 2) (.range1 (.glo 0)) [] [2])]
abbrev s7 : Stmt := topS 12
def n7 : List Str := ["wishes", "size", "t"]
def p7 : List Str := ["wishes", "size", "t"]
theorem sc7 : FnScope n7 p7 (L2.defScope s7) := ⟨rfl, rfl, rfl, by decide +kernel, rfl, by decide +kernel, by decide +kernel⟩
/-- of_noughts -/
def c7 : List CS := [.if_ (.ccmp .Eq (.var 1) (.con (.str "pace"))) [.ret (.ix (.call 3 [(.var 0), (.bin .Add false (.var 2) (.con (.int 1)))]) (.con (.int 1)))] [],
  .if_ (.ccmp .In (.var 1) (.tup [(.con (.str "push")), (.con (.str "n6"))])) [.ret (.ix (.call 3 [(.var 0), (.var 2)]) (.con (.int 2)))] [],
  .ret (.con (.int 0))]
abbrev s8 : Stmt := topS 13
def n8 : List Str := ["wishes", "size"]
def p8 : List Str := ["wishes", "size"]
theorem sc8 : FnScope n8 p8 (L2.defScope s8) := ⟨rfl, rfl, rfl, by decide +kernel, rfl, by decide +kernel, by decide +kernel⟩
/-- beats_of -/
def c8 : List CS := [.ret (.ite (.ccmp .Eq (.var 1) (.con (.str "place"))) (.bi .len false [(.var 0)]) (.bin .Sub false (.bi .len false [(.var 0)]) (.con (.int 1))))]
abbrev s9 : Stmt := topS 14
def n9 : List Str := ["rule", "hand", "whole", "bound"]
def p9 : List Str := ["rule", "hand"]
theorem sc9 : FnScope n9 p9 (L2.defScope s9) := ⟨rfl, rfl, rfl, by decide +kernel, rfl, by decide +kernel, by decide +kernel⟩
/-- ends_of -/
def c9 : List CS := [.asg (.name 2) (.bin .LShift false (.con (.int 1)) (.ix (.var 1) (.con (.int 2)))),
  .ret (.bin .Add false (.lc false (.tup [(.bin .Mult false (.neg (.var 3)) (.var 2)), (.bin .Mult false (.var 3) (.var 2))]) (.name 3) (.seq (.var 0)) [] [3]) (.lst false [(.tup [(.con (.int 0)), (.bin .Sub false (.var 2) (.con (.int 1)))])]))]
abbrev s10 : Stmt := topS 15
def n10 : List Str := ["told", "at", "k", "ends", "down", "up", "kind", "share", "low", "high"]
def p10 : List Str := ["told", "at", "k", "ends"]
theorem sc10 : FnScope n10 p10 (L2.defScope s10) := ⟨rfl, rfl, rfl, by decide +kernel, rfl, by decide +kernel, by decide +kernel⟩
/-- stretch -/
def c10 : List CS := [.asg (.tup [(.name 4), (.name 5)]) (.tup [(.con (.int 0)), (.con (.int 0))]),
  .for_ (.tup [(.name 6), (.tup [(.name 8), (.name 9)])]) (.enum (.var 3)) [.asg (.name 7) (.ix (.ix (.ix (.var 0) (.var 6)) (.var 2)) (.var 1)),
    .aug 4 .Add (.bi .min2 false [(.bin .Mult false (.var 7) (.var 8)), (.bin .Mult false (.var 7) (.var 9))]),
    .aug 5 .Add (.bi .max2 false [(.bin .Mult false (.var 7) (.var 8)), (.bin .Mult false (.var 7) (.var 9))])],
  .ret (.tup [(.var 4), (.var 5)])]
abbrev s11 : Stmt := topS 16
def n11 : List Str := ["hand", "rule", "wishes", "size", "many", "under", "t", "told", "ends", "at", "least", "greatest", "found", "own", "down", "up"]
def p11 : List Str := ["hand", "rule", "wishes", "size"]
theorem sc11 : FnScope n11 p11 (L2.defScope s11) := ⟨rfl, rfl, rfl, by decide +kernel, rfl, by decide +kernel, by decide +kernel⟩
/-- ends_by_beats -/
def c11 : List CS := [.asg (.name 4) (.bin .Sub false (.bi .len false [(.var 2)]) (.con (.int 1))),
  .par3 7 8 9 (.call 6 [(.var 0), (.var 4)]) (.call 9 [(.var 1), (.var 0)]) (.tindex 1 (.var 3)),
  .asg (.name 5) (.bin .Mult false (.call 4 [(.var 0), (.var 4)]) (.bin .LShift false (.con (.int 1)) (.ix (.var 0) (.con (.int 2))))),
  .par3 10 11 12 (.con (.int 0)) (.con (.int 0)) (.lst true []),
  .for_ (.name 6) (.range1 (.call 8 [(.var 2), (.var 3)])) [.if_ (.cor (.ccmp .NotEq (.var 3) (.con (.str "place"))) (.ccmp .Gt (.var 6) (.con (.int 0)))) [.asg (.tup [(.name 14), (.name 15)]) (.call 10 [(.var 7), (.var 9), (.var 6), (.var 8)]),
    .par2 10 11 (.bin .Add false (.var 10) (.var 14)) (.bin .Add false (.var 11) (.var 15))] [],
    .asg (.name 13) (.call 7 [(.var 2), (.var 3), (.var 6)]),
    .append (.var 12) (.tup [(.call 1 [(.bin .Add false (.bin .Mult false (.var 13) (.var 5)) (.var 10)), (.var 5)]), (.call 1 [(.bin .Add false (.bin .Mult false (.var 13) (.var 5)) (.var 11)), (.var 5)])])],
  .ret (.var 12)]
abbrev s12 : Stmt := topS 19
def n12 : List Str := ["word"]
def p12 : List Str := ["word"]
theorem sc12 : FnScope n12 p12 (L2.defScope s12) := ⟨rfl, rfl, rfl, by decide +kernel, rfl, by decide +kernel, by decide +kernel⟩
/-- size_by -/
def c12 : List CS := [.ret (.ite (.ccmp .In (.var 0) (.tup [(.con (.str "slack")), (.con (.str "high")), (.con (.str "low"))])) (.con (.str "place")) (.var 0))]
abbrev s13 : Stmt := topS 20
def n13 : List Str := ["hand", "limits", "wishes", "word", "t", "half", "low", "high", "slack", "fast", "strong", "most"]
def p13 : List Str := ["hand", "limits", "wishes", "word", "t"]
theorem sc13 : FnScope n13 p13 (L2.defScope s13) := ⟨rfl, rfl, rfl, by decide +kernel, rfl, by decide +kernel, by decide +kernel⟩
/-- bounds_of -/
def c13 : List CS := [.asg (.tup [(.name 6), (.name 7), (.name 8), (.name 9), (.name 10)]) (.var 1),
  .asg (.name 5) (.bin .LShift false (.con (.int 1)) (.bin .Sub false (.ix (.var 0) (.con (.int 3))) (.con (.int 1)))),
  .if_ (.ccmp .Eq (.var 3) (.con (.str "high"))) [.ret (.tup [(.con .non), (.bin .Sub false (.var 7) (.ix (.var 2) (.var 4)))])] [],
  .if_ (.ccmp .Eq (.var 3) (.con (.str "low"))) [.ret (.tup [(.bin .Sub false (.var 6) (.ix (.var 2) (.var 4))), (.con .non)])] [],
  .if_ (.ccmp .In (.var 3) (.tup [(.con (.str "slack")), (.con (.str "pace")), (.con (.str "push"))])) [.asg (.name 11) (.kix (.dlit ["slack", "pace", "push"] [(.var 8), (.var 9), (.var 10)]) (.var 3)),
    .ret (.tup [(.neg (.var 11)), (.var 11)])] [],
  .ret (.tup [(.neg (.var 5)), (.bin .Sub false (.var 5) (.con (.int 1)))])]
abbrev s14 : Stmt := topS 21
def n14 : List Str := ["size", "bound"]
def p14 : List Str := ["size", "bound"]
theorem sc14 : FnScope n14 p14 (L2.defScope s14) := ⟨rfl, rfl, rfl, by decide +kernel, rfl, by decide +kernel, by decide +kernel⟩
/-- is_above -/
def c14 : List CS := [.ret (.and_ (.cmp .IsNot (.var 1) (.con .non)) (.call 2 [(.tup [(.var 1), (.con (.int 1))]), (.var 0)]))]
abbrev s15 : Stmt := topS 22
def n15 : List Str := ["size", "bound"]
def p15 : List Str := ["size", "bound"]
theorem sc15 : FnScope n15 p15 (L2.defScope s15) := ⟨rfl, rfl, rfl, by decide +kernel, rfl, by decide +kernel, by decide +kernel⟩
/-- is_under -/
def c15 : List CS := [.ret (.and_ (.cmp .IsNot (.var 1) (.con .non)) (.call 2 [(.var 0), (.tup [(.var 1), (.con (.int 1))])]))]
abbrev s16 : Stmt := topS 23
def n16 : List Str := ["hand", "rule", "limits", "wishes", "ends", "t", "word", "size", "least", "greatest", "low", "high"]
def p16 : List Str := ["hand", "rule", "limits", "wishes"]
theorem sc16 : FnScope n16 p16 (L2.defScope s16) := ⟨rfl, rfl, rfl, by decide +kernel, rfl, by decide +kernel, by decide +kernel⟩
/-- let -/
def c16 : List CS := [.setLc 4 (.dcomp (.var 7) (.call 11 [(.var 0), (.var 1), (.var 3), (.var 7)]) (.name 7) (.seq (.glo 1)) [7]),
  .for_ (.name 5) (.range1 (.bi .len false [(.var 3)])) [.for_ (.name 6) (.seq (.glo 2)) [.asg (.name 7) (.call 12 [(.var 6)]),
    .if_ (.ccmp .Lt (.var 5) (.call 8 [(.var 3), (.var 7)])) [.asg (.tup [(.name 8), (.name 9)]) (.ix (.kix (.var 4) (.var 7)) (.var 5)),
    .asg (.tup [(.name 10), (.name 11)]) (.call 13 [(.var 0), (.var 2), (.var 3), (.var 6), (.var 5)]),
    .if_ (.cor (.cval (.call 14 [(.var 9), (.var 11)])) (.cval (.call 15 [(.var 8), (.var 10)]))) [.ret (.tup [(.con (.str "refused")), (.var 5), (.var 6), (.call 14 [(.var 9), (.var 11)])])] []] []]],
  .ret (.tup [(.con (.str "let"))])]
abbrev s17 : Stmt := topS 25
def n17 : List Str := ["_law_script", "_law_k", "_law_cell", "_law_great"]
def p17 : List Str := ["_law_script", "_law_k"]
theorem sc17 : FnScope n17 p17 (L2.defScope s17) := ⟨rfl, rfl, rfl, by decide +kernel, rfl, by decide +kernel, by decide +kernel⟩
/-- _law_hand -/
def c17 : List CS := [.asg (.name 2) (.ite (.ccmp .Lt (.var 1) (.bi .len false [(.var 0)])) (.ix (.var 0) (.var 1)) (.con (.int 0))),
  .asg (.name 3) (.ite (.ccmp .GtE (.bi .abs false [(.var 2)]) (.bin .Pow false (.con (.int 10)) (.con (.int 18)))) (.bin .Mod false (.bi .abs false [(.var 2)]) (.bin .Mult false (.bin .Mult false (.bin .Pow false (.con (.int 10)) (.con (.int 60))) (.bin .Pow false (.con (.int 10)) (.con (.int 60)))) (.bin .Pow false (.con (.int 10)) (.con (.int 60))))) (.con (.int 0))),
  .ret (.lst true [(.var 3), (.bin .Mod false (.bin .Add false (.bin .Add false (.bin .Mult false (.bin .Mod false (.var 2) (.con (.int 2305843009213693951))) (.con (.int 1000033))) (.bin .Mult false (.con (.int 6857)) (.var 1))) (.con (.int 41))) (.con (.int 2305843009213693921))), (.con (.int 0))])]
abbrev s18 : Stmt := topS 26
def n18 : List Str := ["_law_pot", "_law_many", "_law_turn", "_law_one", "_law_two", "_law_mixed", "_law_last", "_law_digit"]
def p18 : List Str := ["_law_pot", "_law_many"]
theorem sc18 : FnScope n18 p18 (L2.defScope s18) := ⟨rfl, rfl, rfl, by decide +kernel, rfl, by decide +kernel, by decide +kernel⟩
/-- _law_take -/
def c18 : List CS := [.if_ (.ccmp .Gt (.ix (.var 0) (.con (.int 0))) (.con (.int 0))) [.asg (.name 7) (.bin .Mod false (.ix (.var 0) (.con (.int 0))) (.var 1)),
    .asg (.sub (.var 0) (.con (.int 0))) (.bin .FloorDiv false (.ix (.var 0) (.con (.int 0))) (.var 1)),
    .ret (.var 7)] [],
  .asg (.name 2) (.bin .Add false (.ix (.var 0) (.con (.int 2))) (.con (.int 1))),
  .asg (.sub (.var 0) (.con (.int 2))) (.var 2),
  .asg (.name 3) (.bin .Add false (.ix (.var 0) (.con (.int 1))) (.bin .Mult false (.con (.int 15485867)) (.var 2))),
  .asg (.name 4) (.bin .Add false (.bin .Add false (.bin .Mod false (.ix (.var 0) (.con (.int 1))) (.con (.int 7907))) (.bin .Mult false (.con (.int 32452867)) (.var 2))) (.con (.int 19))),
  .asg (.name 5) (.bin .Mod false (.bin .Mult false (.var 3) (.var 4)) (.con (.int 2305843009213693951))),
  .asg (.name 6) (.bin .Add false (.bin .Add false (.bin .Mod false (.var 5) (.con (.int 1000003))) (.bin .Mult false (.con (.int 6700441)) (.var 2))) (.con (.int 7))),
  .ret (.bin .Mod false (.bin .FloorDiv false (.bin .Mod false (.bin .Mult false (.bin .Add false (.var 5) (.con (.int 11))) (.var 6)) (.con (.int 2305843009213693907))) (.con (.int 64))) (.var 1))]
abbrev s19 : Stmt := topS 27
def n19 : List Str := ["_law_pot", "_law_some"]
def p19 : List Str := ["_law_pot", "_law_some"]
theorem sc19 : FnScope n19 p19 (L2.defScope s19) := ⟨rfl, rfl, rfl, by decide +kernel, rfl, by decide +kernel, by decide +kernel⟩
/-- _law_pick -/
def c19 : List CS := [.ret (.ix (.var 1) (.call 18 [(.var 0), (.bi .len false [(.var 1)])]))]
abbrev s20 : Stmt := topS 28
def n20 : List Str := ["_law_pot", "_law_f", "_law_one", "_law_first", "_law_second"]
def p20 : List Str := ["_law_pot"]
theorem sc20 : FnScope n20 p20 (L2.defScope s20) := ⟨rfl, rfl, rfl, by decide +kernel, rfl, by decide +kernel, by decide +kernel⟩
/-- _law_gain_pair -/
def c20 : List CS := [.asg (.name 1) (.call 19 [(.var 0), (.lst false [(.con (.int 1)), (.con (.int 2)), (.con (.int 2)), (.con (.int 3)), (.con (.int 4)), (.con (.int 8))])]),
  .asg (.name 2) (.bin .LShift false (.con (.int 1)) (.var 1)),
  .if_ (.ccmp .Eq (.call 18 [(.var 0), (.con (.int 8))]) (.con (.int 0))) [.ret (.tup [(.bin .Sub false (.call 18 [(.var 0), (.con (.int 9))]) (.con (.int 4))), (.bin .Sub false (.call 18 [(.var 0), (.con (.int 9))]) (.con (.int 4))), (.call 18 [(.var 0), (.con (.int 9))]), (.bin .Add false (.con (.int 8)) (.call 18 [(.var 0), (.con (.int 9))]))])] [],
  .asg (.name 3) (.bin .Add false (.con (.int 1)) (.call 18 [(.var 0), (.bi .max2 false [(.con (.int 1)), (.bin .FloorDiv false (.var 2) (.con (.int 2)))])])),
  .asg (.name 4) (.bin .Add false (.bin .FloorDiv false (.var 2) (.con (.int 2))) (.call 18 [(.var 0), (.bin .Add false (.bin .FloorDiv false (.var 2) (.con (.int 2))) (.con (.int 1)))])),
  .ret (.tup [(.var 3), (.var 4), (.var 1), (.bin .Add false (.call 19 [(.var 0), (.lst false [(.con (.int 10)), (.con (.int 12)), (.con (.int 16)), (.con (.int 24)), (.con (.int 32))])]) (.var 1))])]
abbrev s21 : Stmt := topS 29
def n21 : List Str := ["_law_pot", "_law_peak", "_law_at", "_law_k", "_law_found", "_law_far"]
def p21 : List Str := ["_law_pot", "_law_peak"]
theorem sc21 : FnScope n21 p21 (L2.defScope s21) := ⟨rfl, rfl, rfl, by decide +kernel, rfl, by decide +kernel, by decide +kernel⟩
/-- _law_wishes -/
def c21 : List CS := [.asg (.name 2) (.bin .Sub false (.call 18 [(.var 0), (.con (.int 41))]) (.con (.int 20))),
  .par2 4 5 (.lst true [(.var 2)]) (.call 19 [(.var 0), (.lst false [(.con (.int 1)), (.con (.int 3)), (.con (.int 9))])]),
  .for_ (.name 3) (.range1 (.bin .Add false (.con (.int 1)) (.call 18 [(.var 0), (.var 1)]))) [.asg (.name 2) (.bin .Sub false (.bin .Add false (.var 2) (.call 18 [(.var 0), (.bin .Add false (.bin .Mult false (.con (.int 2)) (.var 5)) (.con (.int 1)))])) (.var 5)),
    .append (.var 4) (.var 2)],
  .ret (.bi .tuple1 false [(.var 4)])]
abbrev s22 : Stmt := topS 30
def n22 : List Str := ["_law_pot", "_law_peak", "_law_lets", "_law_which", "_law_gains", "_law_goals"]
def p22 : List Str := ["_law_pot", "_law_peak"]
theorem sc22 : FnScope n22 p22 (L2.defScope s22) := ⟨rfl, rfl, rfl, by decide +kernel, rfl, by decide +kernel, by decide +kernel⟩
/-- _law_setting -/
def c22 : List CS := [.asg (.name 2) (.tup [(.call 18 [(.var 0), (.con (.int 4))]), (.call 18 [(.var 0), (.con (.int 3))]), (.call 18 [(.var 0), (.con (.int 3))])]),
  .par2 4 5 (.call 20 [(.var 0)]) (.call 21 [(.var 0), (.var 1)]),
  .asg (.name 3) (.call 18 [(.var 0), (.con (.int 12))]),
  .if_ (.ccmp .Eq (.var 3) (.con (.int 11))) [.asg (.name 2) (.tup [(.call 18 [(.var 0), (.con (.int 1001))]), (.call 18 [(.var 0), (.con (.int 1001))]), (.call 18 [(.var 0), (.con (.int 40))])])] [],
  .if_ (.ccmp .Eq (.var 3) (.con (.int 10))) [.asg (.name 4) (.bin .Add false (.tup [(.bin .Sub false (.call 18 [(.var 0), (.con (.int 8193))]) (.con (.int 4096))), (.bin .Sub false (.call 18 [(.var 0), (.con (.int 8193))]) (.con (.int 4096))), (.con (.int 8))]) (.sl false (.var 4) (.yes (.con (.int 3))) .no))] [],
  .if_ (.cor (.ccmp .Lt (.bi .min1 false [(.sl false (.var 4) .no (.yes (.con (.int 2))))]) (.con (.int 0))) (.ccmp .Gt (.bin .Mult false (.con (.int 2)) (.bin .Add false (.ix (.var 4) (.con (.int 0))) (.ix (.var 4) (.con (.int 1))))) (.bin .LShift false (.con (.int 3)) (.ix (.var 4) (.con (.int 2)))))) [.asg (.name 5) (.sl false (.var 5) .no (.yes (.con (.int 3))))] [],
  .ret (.tup [(.var 4), (.var 2), (.var 5)])]
abbrev s23 : Stmt := topS 31
def n23 : List Str := ["_law_gains", "_law_goals"]
def p23 : List Str := ["_law_gains", "_law_goals"]
theorem sc23 : FnScope n23 p23 (L2.defScope s23) := ⟨rfl, rfl, rfl, by decide +kernel, rfl, by decide +kernel, by decide +kernel⟩
/-- _law_unit -/
def c23 : List CS := [.ret (.bin .LShift false (.con (.int 12)) (.bin .Mult false (.ix (.var 0) (.con (.int 2))) (.bin .Add false (.bi .len false [(.var 1)]) (.con (.int 1)))))]
abbrev s24 : Stmt := topS 32
def n24 : List Str := ["_law_goals", "_law_when", "_law_row", "_law_pace"]
def p24 : List Str := ["_law_goals", "_law_when"]
theorem sc24 : FnScope n24 p24 (L2.defScope s24) := ⟨rfl, rfl, rfl, by decide +kernel, rfl, by decide +kernel, by decide +kernel⟩
/-- _law_wish -/
def c24 : List CS := [.asg (.name 2) (.bin .Add false (.bin .Add false (.tup [(.ix (.var 0) (.con (.int 0)))]) (.var 0)) (.tup [(.ix (.var 0) (.neg (.con (.int 1))))])),
  .asg (.name 3) (.bin .Sub false (.ix (.var 2) (.bin .Add false (.var 1) (.con (.int 1)))) (.ix (.var 2) (.var 1))),
  .ret (.tup [(.ix (.var 0) (.var 1)), (.var 3), (.bin .Sub false (.bin .Sub false (.ix (.var 2) (.bin .Add false (.var 1) (.con (.int 2)))) (.ix (.var 2) (.bin .Add false (.var 1) (.con (.int 1))))) (.var 3))])]
abbrev s25 : Stmt := topS 33
def n25 : List Str := ["_law_gains", "_law_goals", "_law_rows", "_law_first", "_law_second", "_law_f", "_law_bits", "_law_unit_here", "_law_found", "_law_states", "_law_x", "_law_v", "_law_y0", "_law_when", "_law_row", "_law_y", "_law_numbers_here", "_law_both", "_law_u", "_law_load", "_law_slip", "_law_off", "_law_loss", "_law_at", "_law_pace", "_law_push", "_law_part", "_law_kind_at"]
def p25 : List Str := ["_law_gains", "_law_goals", "_law_rows"]
theorem sc25 : FnScope n25 p25 (L2.defScope s25) := ⟨rfl, rfl, rfl, by decide +kernel, rfl, by decide +kernel, by decide +kernel⟩
/-- _law_sizes -/
def c25 : List CS := [.asg (.tup [(.name 3), (.name 4), (.name 5), (.name 6)]) (.var 0),
  .asg (.tup [(.name 7), (.name 8), (.name 9)]) (.tup [(.call 23 [(.var 0), (.var 1)]), (.lst true []), (.lst true [])]),
  .par3 10 11 12 (.bin .Mult false (.ix (.var 1) (.con (.int 0))) (.var 7)) (.con (.int 0)) (.bin .Mult false (.ix (.var 1) (.con (.int 0))) (.var 7)),
  .for_ (.tup [(.name 13), (.name 14)]) (.enum (.var 2)) [.asg (.tup [(.name 19), (.name 20), (.name 21), (.name 22)]) (.lc false (.bin .FloorDiv false (.bin .Mult false (.ix (.var 26) (.con (.int 0))) (.var 7)) (.ix (.var 26) (.con (.int 1)))) (.name 26) (.seq (.var 14)) [] [26]),
    .asg (.tup [(.name 23), (.name 24), (.name 25)]) (.lc false (.bin .Mult false (.var 27) (.var 7)) (.name 27) (.seq (.call 24 [(.var 1), (.var 13)])) [] [27]),
    .asg (.name 15) (.bin .Add false (.var 10) (.var 21)),
    .asg (.name 16) (.lst false [(.bin .Sub false (.var 15) (.var 23)), (.bin .Sub false (.bin .Sub false (.var 15) (.var 12)) (.var 24)), (.bin .Mult false (.var 3) (.bin .Sub false (.var 15) (.var 23))), (.bin .Mult false (.var 4) (.bin .Sub false (.bin .Sub false (.var 15) (.var 12)) (.var 24)))]),
    .asg (.name 17) (.bin .Add false (.ix (.var 16) (.con (.int 2))) (.ix (.var 16) (.con (.int 3)))),
    .asg (.name 18) (.bin .Add false (.bin .Sub false (.var 25) (.bin .RShift false (.var 17) (.var 5))) (.var 22)),
    .append (.var 9) (.tup [(.var 10), (.var 11), (.var 15), (.var 18)]),
    .asg (.name 11) (.bin .Add false (.bin .Add false (.var 11) (.var 18)) (.var 19)),
    .append (.var 8) (.bin .Add false (.bin .Add false (.lst false [(.bin .Sub false (.var 10) (.var 23)), (.bin .Add false (.var 11) (.var 20)), (.var 18)]) (.var 16)) (.lst false [(.var 17), (.bin .Sub false (.var 25) (.var 18)), (.var 18)])),
    .par2 10 12 (.bin .Add false (.bin .Add false (.var 10) (.var 11)) (.var 20)) (.var 15)],
  .ret (.tup [(.bin .Add false (.var 8) (.lst false [(.lst false [(.bin .Sub false (.var 10) (.bin .Mult false (.ix (.var 1) (.neg (.con (.int 1)))) (.var 7)))])])), (.bin .Add false (.var 9) (.lst false [(.tup [(.var 10), (.var 11)])]))])]
abbrev s26 : Stmt := topS 34
def n26 : List Str := ["_law_goals"]
def p26 : List Str := ["_law_goals"]
theorem sc26 : FnScope n26 p26 (L2.defScope s26) := ⟨rfl, rfl, rfl, by decide +kernel, rfl, by decide +kernel, by decide +kernel⟩
/-- _law_noughts -/
def c26 : List CS := [.ret (.bin .Mult false (.tup [(.bin .Mult false (.tup [(.tup [(.con (.int 0)), (.con (.int 1))])]) (.con (.int 4)))]) (.bin .Sub false (.bi .len false [(.var 0)]) (.con (.int 1))))]
abbrev s27 : Stmt := topS 35
def n27 : List Str := ["_law_goals", "_law_at", "_law_kind", "_law_row", "_law_rows", "_law_k"]
def p27 : List Str := ["_law_goals", "_law_at", "_law_kind"]
theorem sc27 : FnScope n27 p27 (L2.defScope s27) := ⟨rfl, rfl, rfl, by decide +kernel, rfl, by decide +kernel, by decide +kernel⟩
/-- _law_alone -/
def c27 : List CS := [.asg (.name 3) (.bi .tuple1 false [(.lc false (.tup [(.bi .int1 false [(.cmp .Eq (.var 5) (.var 2))]), (.con (.int 1))]) (.name 5) (.range1 (.con (.int 4))) [] [5])]),
  .asg (.name 4) (.call 26 [(.var 0)]),
  .ret (.bin .Add false (.bin .Add false (.sl false (.var 4) .no (.yes (.var 1))) (.tup [(.var 3)])) (.sl false (.var 4) (.yes (.bin .Add false (.var 1) (.con (.int 1)))) .no))]
abbrev s28 : Stmt := topS 36
def n28 : List Str := ["_law_gains", "_law_goals", "_law_at", "_law_calm", "_law_found", "_law_kind", "_law_moved", "_law_when", "_law_row", "_law_kind_at", "_law_parts"]
def p28 : List Str := ["_law_gains", "_law_goals"]
theorem sc28 : FnScope n28 p28 (L2.defScope s28) := ⟨rfl, rfl, rfl, by decide +kernel, rfl, by decide +kernel, by decide +kernel⟩
/-- _law_shares -/
def c28 : List CS := [.par2 3 4 (.ix (.call 25 [(.var 0), (.var 1), (.call 26 [(.var 1)])]) (.con (.int 0))) .dnew,
  .for_ (.name 2) (.range1 (.bin .Sub false (.bi .len false [(.var 1)]) (.con (.int 1)))) [.for_ (.name 5) (.range1 (.con (.int 4))) [.asg (.name 6) (.ix (.call 25 [(.var 0), (.var 1), (.call 27 [(.var 1), (.var 2), (.var 5)])]) (.con (.int 0))),
    .for_ (.tup [(.name 7), (.name 8)]) (.enum (.var 6)) [.for_ (.tup [(.name 9), (.name 10)]) (.enum (.var 8)) [.asg (.dsub (.var 4) [(.var 9), (.var 7), (.var 2), (.var 5)]) (.bin .Sub false (.var 10) (.ix (.ix (.var 3) (.var 7)) (.var 9)))]]]],
  .ret (.tup [(.var 3), (.var 4)])]
abbrev s29 : Stmt := topS 37
def n29 : List Str := ["_law_gains", "_law_lets", "_law_goals", "_law_bounds", "_law_calm", "_law_moved", "_law_full", "_law_found", "_law_when", "_law_row", "_law_kind_at", "_law_parts", "_law_at", "_law_bound", "_law_low", "_law_high", "_law_kind", "_law_pair", "_law_some", "_law_one"]
def p29 : List Str := ["_law_gains", "_law_lets", "_law_goals"]
theorem sc29 : FnScope n29 p29 (L2.defScope s29) := ⟨rfl, rfl, rfl, by decide +kernel, rfl, by decide +kernel, by decide +kernel⟩
/-- _law_ends -/
def c29 : List CS := [.asg (.tup [(.name 4), (.name 5)]) (.call 28 [(.var 0), (.var 2)]),
  .asg (.tup [(.name 6), (.name 7)]) (.tup [(.bin .LShift false (.con (.int 1)) (.ix (.var 0) (.con (.int 2)))), .dnew]),
  .asg (.name 3) (.bin .Add false (.lc false (.tup [(.bin .Sub false (.con (.int 0)) (.bin .Mult false (.var 13) (.var 6))), (.bin .Mult false (.var 13) (.var 6))]) (.name 13) (.seq (.var 1)) [] [13]) (.lst false [(.tup [(.con (.int 0)), (.bin .Sub false (.var 6) (.con (.int 1)))])])),
  .for_ (.tup [(.name 8), (.name 9)]) (.enum (.var 4)) [.for_ (.tup [(.name 10), (.name 11)]) (.enum (.var 9)) [.par2 14 15 (.bin .Mult false (.var 11) (.var 6)) (.bin .Mult false (.var 11) (.var 6)),
    .for_ (.name 12) (.range1 (.bin .Sub false (.bi .len false [(.var 2)]) (.con (.int 1)))) [.for_ (.tup [(.name 16), (.name 17)]) (.enum (.var 3)) [.setLc 18 (.lc false (.bin .Mult false (.ix (.var 5) (.tup [(.var 10), (.var 8), (.var 12), (.var 16)])) (.var 19)) (.name 19) (.seq (.var 17)) [] [19]),
    .par2 14 15 (.bin .Add false (.var 14) (.bi .min1 false [(.var 18)])) (.bin .Add false (.var 15) (.bi .max1 false [(.var 18)]))]],
    .asg (.dsub (.var 7) [(.var 10), (.var 8)]) (.tup [(.var 14), (.var 15)])]],
  .ret (.tup [(.var 7), (.bin .Mult false (.call 23 [(.var 0), (.var 2)]) (.var 6))])]
abbrev s30 : Stmt := topS 38
def n30 : List Str := ["_law_gains", "_law_fences", "_law_goals", "_law_when", "_law_found", "_law_low", "_law_high", "_law_slack", "_law_fast", "_law_strong", "_law_half", "_law_at", "_law_k"]
def p30 : List Str := ["_law_gains", "_law_fences", "_law_goals", "_law_when"]
theorem sc30 : FnScope n30 p30 (L2.defScope s30) := ⟨rfl, rfl, rfl, by decide +kernel, rfl, by decide +kernel, by decide +kernel⟩
/-- _law_checks -/
def c30 : List CS := [.asg (.tup [(.name 5), (.name 6), (.name 7), (.name 8), (.name 9)]) (.var 1),
  .asg (.tup [(.name 10), (.name 11)]) (.tup [(.bin .LShift false (.con (.int 1)) (.bin .Sub false (.ix (.var 0) (.con (.int 3))) (.con (.int 1)))), (.ix (.var 2) (.var 3))]),
  .asg (.name 4) (.lst false [(.tup [(.con (.str "slack")), (.con (.int 0)), (.bin .Sub false (.con (.int 0)) (.var 7)), (.var 7)]), (.tup [(.con (.str "high")), (.con (.int 0)), (.con .non), (.bin .Sub false (.var 6) (.var 11))]), (.tup [(.con (.str "low")), (.con (.int 0)), (.bin .Sub false (.var 5) (.var 11)), (.con .non)])]),
  .if_ (.ccmp .Eq (.var 3) (.bin .Sub false (.bi .len false [(.var 2)]) (.con (.int 1)))) [.ret (.var 4)] [],
  .asg (.name 4) (.bin .Add false (.var 4) (.lst false [(.tup [(.con (.str "pace")), (.con (.int 1)), (.bin .Sub false (.con (.int 0)) (.var 8)), (.var 8)]), (.tup [(.con (.str "push")), (.con (.int 2)), (.bin .Sub false (.con (.int 0)) (.var 9)), (.var 9)])])),
  .ret (.bin .Add false (.var 4) (.lc false (.tup [(.bin .Add false (.con (.str "n")) (.bi .str1 false [(.var 12)])), (.bin .Add false (.con (.int 3)) (.var 12)), (.bin .Sub false (.con (.int 0)) (.var 10)), (.bin .Sub false (.var 10) (.con (.int 1)))]) (.name 12) (.range1 (.con (.int 7))) [] [12]))]
abbrev s31 : Stmt := topS 39
def n31 : List Str := ["_law_parts", "_law_least", "_law_upmost", "_law_scale", "_law_above"]
def p31 : List Str := ["_law_parts", "_law_least", "_law_upmost", "_law_scale"]
theorem sc31 : FnScope n31 p31 (L2.defScope s31) := ⟨rfl, rfl, rfl, by decide +kernel, rfl, by decide +kernel, by decide +kernel⟩
/-- _law_sides -/
def c31 : List CS := [.asg (.name 4) (.and_ (.cmp .IsNot (.var 2) (.con .non)) (.cmp .Gt (.ix (.var 0) (.con (.int 1))) (.bin .Mult false (.var 2) (.var 3)))),
  .ret (.tup [(.var 4), (.and_ (.cmp .IsNot (.var 1) (.con .non)) (.cmp .Lt (.ix (.var 0) (.con (.int 0))) (.bin .Mult false (.var 1) (.var 3))))])]
abbrev s32 : Stmt := topS 40
def n32 : List Str := ["_law_gains", "_law_fences", "_law_goals", "_law_reach", "_law_scale", "_law_when", "_law_word", "_law_kind_at", "_law_least", "_law_upmost", "_law_above", "_law_under"]
def p32 : List Str := ["_law_gains", "_law_fences", "_law_goals", "_law_reach", "_law_scale"]
theorem sc32 : FnScope n32 p32 (L2.defScope s32) := ⟨rfl, rfl, rfl, by decide +kernel, rfl, by decide +kernel, by decide +kernel⟩
/-- _law_let -/
def c32 : List CS := [.for_ (.name 5) (.range1 (.bi .len false [(.var 2)])) [.for_ (.tup [(.name 6), (.name 7), (.name 8), (.name 9)]) (.seq (.call 30 [(.var 0), (.var 1), (.var 2), (.var 5)])) [.asg (.tup [(.name 10), (.name 11)]) (.call 31 [(.ix (.var 3) (.tup [(.var 7), (.var 5)])), (.var 8), (.var 9), (.var 4)]),
    .if_ (.cor (.cval (.var 10)) (.cval (.var 11))) [.ret (.tup [(.con (.str "refused")), (.var 5), (.var 6), (.var 10)])] []]],
  .ret (.tup [(.con (.str "let"))])]
abbrev s33 : Stmt := topS 41
def n33 : List Str := ["_law_pot", "_law_goals", "_law_reach", "_law_scale", "_law_less", "_law_low", "_law_high", "_law_found", "_law_turn", "_law_many", "_law_kind_at", "_law_beats", "_law_peak", "_law_at", "_law_step", "_law_when", "_law_one"]
def p33 : List Str := ["_law_pot", "_law_goals", "_law_reach", "_law_scale", "_law_less"]
theorem sc33 : FnScope n33 p33 (L2.defScope s33) := ⟨rfl, rfl, rfl, by decide +kernel, rfl, by decide +kernel, by decide +kernel⟩
/-- _law_limits -/
def c33 : List CS := [.par2 9 7 (.bin .Sub false (.bi .len false [(.var 1)]) (.con (.int 1))) (.lst true []),
  .for_ (.tup [(.name 10), (.name 11)]) (.seq (.tup [(.tup [(.con (.int 0)), (.bin .Add false (.var 9) (.con (.int 1)))]), (.tup [(.con (.int 1)), (.var 9)]), (.tup [(.con (.int 2)), (.var 9)])])) [.asg (.name 12) (.bi .max1 false [(.lc false (.bi .max2 false [(.ix (.ix (.var 2) (.tup [(.var 10), (.var 15)])) (.con (.int 1))), (.bin .Sub false (.con (.int 0)) (.ix (.ix (.var 2) (.tup [(.var 10), (.var 15)])) (.con (.int 0))))]) (.name 15) (.range1 (.var 11)) [] [15])]),
    .append (.var 7) (.bin .Sub false (.con (.int 0)) (.bin .FloorDiv false (.bin .Sub false (.con (.int 0)) (.var 12)) (.var 3)))],
  .asg (.name 5) (.bi .min1 false [(.lc false (.bin .Add false (.ix (.var 1) (.var 15)) (.bin .FloorDiv false (.ix (.ix (.var 2) (.tup [(.con (.int 0)), (.var 15)])) (.con (.int 0))) (.var 3))) (.name 15) (.range1 (.bin .Add false (.var 9) (.con (.int 1)))) [] [15])]),
  .asg (.name 6) (.bi .max1 false [(.lc false (.bin .Sub false (.ix (.var 1) (.var 15)) (.bin .FloorDiv false (.bin .Sub false (.con (.int 0)) (.ix (.ix (.var 2) (.tup [(.con (.int 0)), (.var 15)])) (.con (.int 1)))) (.var 3))) (.name 15) (.range1 (.bin .Add false (.var 9) (.con (.int 1)))) [] [15])]),
  .asg (.name 7) (.bin .Add true (.lst false [(.var 5), (.var 6)]) (.var 7)),
  .for_ (.name 8) (.range1 (.var 4)) [.asg (.name 13) (.call 18 [(.var 0), (.con (.int 5))]),
    .asg (.name 14) (.call 19 [(.var 0), (.lst false [(.con (.int 1)), (.con (.int 1)), (.con (.int 2)), (.bin .Add false (.con (.int 1)) (.call 18 [(.var 0), (.con (.int 9))]))])]),
    .asg (.sub (.var 7) (.var 13)) (.ite (.ccmp .Eq (.var 13) (.con (.int 0))) (.bin .Add false (.ix (.var 7) (.var 13)) (.var 14)) (.bin .Sub false (.ix (.var 7) (.var 13)) (.var 14)))],
  .ret (.bin .Add false (.tup [(.bi .min2 false [(.ix (.var 7) (.con (.int 0))), (.ix (.var 7) (.con (.int 1)))]), (.ix (.var 7) (.con (.int 1)))]) (.bi .tuple1 false [(.lc false (.bi .max2 false [(.con (.int 0)), (.var 16)]) (.name 16) (.seq (.sl false (.var 7) (.yes (.con (.int 2))) .no)) [] [16])]))]
abbrev s34 : Stmt := topS 42
def n34 : List Str := ["_law_gains", "_law_reach", "_law_scale", "_law_peak", "_law_bits", "_law_spot", "_law_pair"]
def p34 : List Str := ["_law_gains", "_law_reach", "_law_scale"]
theorem sc34 : FnScope n34 p34 (L2.defScope s34) := ⟨rfl, rfl, rfl, by decide +kernel, rfl, by decide +kernel, by decide +kernel⟩
/-- _law_roomy -/
def c34 : List CS := [.lock (.asg (.name 3) (.bin .Add false (.bin .FloorDiv false (.bi .max1 false [(.lc false (.bi .max2 false [(.ix (.var 6) (.con (.int 1))), (.bin .Sub false (.con (.int 0)) (.ix (.var 6) (.con (.int 0))))]) (.tup [(.name 5), (.name 6)]) (.items (.var 1)) [(.ccmp .Gt (.ix (.var 5) (.con (.int 0))) (.con (.int 2)))] [5, 6])]) (.var 2)) (.con (.int 1)))),
  .asg (.name 4) (.con (.int 4)),
  .while_ (.ccmp .LtE (.bin .LShift false (.con (.int 1)) (.bin .Sub false (.var 4) (.con (.int 1)))) (.var 3)) [.asg (.name 4) (.bin .Add false (.var 4) (.con (.int 1)))],
  .ret (.bin .Add false (.sl false (.var 0) .no (.yes (.con (.int 3)))) (.tup [(.var 4)]))]
abbrev s35 : Stmt := topS 43
def n35 : List Str := ["_law_script", "_law_k", "_law_pot", "_law_gains", "_law_turn", "_law_lets", "_law_goals", "_law_reach", "_law_scale", "_law_bits", "_law_here", "_law_fences", "_law_found", "_law_due", "_law_kept"]
def p35 : List Str := ["_law_script"]
theorem sc35 : FnScope n35 p35 (L2.defScope s35) := ⟨rfl, rfl, rfl, by decide +kernel, rfl, by decide +kernel, by decide +kernel⟩
/-- law -/
def c35 : List CS := [.for_ (.name 1) (.range1 (.bi .max2 false [(.con (.int 1)), (.bi .min2 false [(.con (.int 3)), (.bi .len false [(.var 0)])])])) [.asg (.name 2) (.call 17 [(.var 0), (.var 1)]),
    .asg (.tup [(.name 3), (.name 5), (.name 6)]) (.call 22 [(.var 2), (.con (.int 7))]),
    .asg (.tup [(.name 7), (.name 8)]) (.call 29 [(.var 3), (.var 5), (.var 6)]),
    .asg (.name 3) (.call 34 [(.var 3), (.var 7), (.var 8)]),
    .for_ (.name 4) (.range1 (.con (.int 5))) [.asg (.name 9) (.bi .max2 false [(.con (.int 4)), (.bin .Sub false (.ix (.var 3) (.con (.int 3))) (.bi .int1 false [(.cmp .Eq (.call 18 [(.var 2), (.con (.int 4))]) (.con (.int 0)))]))]),
    .asg (.name 10) (.bin .Add false (.sl false (.var 3) .no (.yes (.con (.int 3)))) (.tup [(.bi .min2 false [(.con (.int 40)), (.var 9)])])),
    .asg (.name 11) (.call 33 [(.var 2), (.var 6), (.var 7), (.var 8), (.call 18 [(.var 2), (.con (.int 3))])]),
    .par2 13 14 (.call 32 [(.var 10), (.var 11), (.var 6), (.var 7), (.var 8)]) (.bi .repr1 false [(.tup [(.var 10), (.var 5), (.var 11), (.var 6)])]),
    .asg (.name 12) (.lst false [(.call 16 [(.var 10), (.var 5), (.var 11), (.var 6)]), (.callK 16 [] [(.var 6), (.var 11), (.var 5), (.var 10)] [3, 2, 1, 0])]),
    .if_ (.cor (.ccmp .NotEq (.bi .repr1 false [(.var 12)]) (.bi .repr1 false [(.lst false [(.var 13), (.var 13)])])) (.ccmp .NotEq (.bi .repr1 false [(.tup [(.var 10), (.var 5), (.var 11), (.var 6)])]) (.var 14))) [.ret (.con (.bl false))] []]],
  .ret (.con (.bl true))]
def gls : List Str := ["KINDS", "SIZES", "WORDS"]
def glD : Nat → D := fun j => match j with | 0 => (.int (4)) | 1 => (.tup [(.str "place"), (.str "pace"), (.str "push"), (.str "n0"), (.str "n1"), (.str "n2"), (.str "n3"), (.str "n4"), (.str "n5"), (.str "n6")]) | 2 => (.tup [(.str "slack"), (.str "high"), (.str "low"), (.str "pace"), (.str "push"), (.str "n0"), (.str "n1"), (.str "n2"), (.str "n3"), (.str "n4"), (.str "n5"), (.str "n6")]) | _ => .non
def bis : List Str := ["abs", "enumerate", "int", "len", "max", "min", "range", "repr", "str", "tuple"]
def i0 : FI := ⟨"common", p0, [], false⟩
def i1 : FI := ⟨"made", p1, [], false⟩
def i2 : FI := ⟨"is_below", p2, [], false⟩
def i3 : FI := ⟨"wish_at", p3, [], false⟩
def i4 : FI := ⟨"unit_of", p4, [], false⟩
def i5 : FI := ⟨"answers_to", p5, [], false⟩
def i6 : FI := ⟨"answers", p6, [], false⟩
def i7 : FI := ⟨"of_noughts", p7, [], false⟩
def i8 : FI := ⟨"beats_of", p8, [], false⟩
def i9 : FI := ⟨"ends_of", p9, [], false⟩
def i10 : FI := ⟨"stretch", p10, [], false⟩
def i11 : FI := ⟨"ends_by_beats", p11, [], false⟩
def i12 : FI := ⟨"size_by", p12, [], false⟩
def i13 : FI := ⟨"bounds_of", p13, [], false⟩
def i14 : FI := ⟨"is_above", p14, [], false⟩
def i15 : FI := ⟨"is_under", p15, [], false⟩
def i16 : FI := ⟨"let", p16, [(["wishes", "limits", "rule", "hand"], [3, 2, 1, 0])], false⟩
def i17 : FI := ⟨"_law_hand", p17, [], false⟩
def i18 : FI := ⟨"_law_take", p18, [], false⟩
def i19 : FI := ⟨"_law_pick", p19, [], false⟩
def i20 : FI := ⟨"_law_gain_pair", p20, [], false⟩
def i21 : FI := ⟨"_law_wishes", p21, [], false⟩
def i22 : FI := ⟨"_law_setting", p22, [], false⟩
def i23 : FI := ⟨"_law_unit", p23, [], false⟩
def i24 : FI := ⟨"_law_wish", p24, [], false⟩
def i25 : FI := ⟨"_law_sizes", p25, [], false⟩
def i26 : FI := ⟨"_law_noughts", p26, [], false⟩
def i27 : FI := ⟨"_law_alone", p27, [], false⟩
def i28 : FI := ⟨"_law_shares", p28, [], false⟩
def i29 : FI := ⟨"_law_ends", p29, [], false⟩
def i30 : FI := ⟨"_law_checks", p30, [], false⟩
def i31 : FI := ⟨"_law_sides", p31, [], false⟩
def i32 : FI := ⟨"_law_let", p32, [], false⟩
def i33 : FI := ⟨"_law_limits", p33, [], false⟩
def i34 : FI := ⟨"_law_roomy", p34, [], false⟩
def i35 : FI := ⟨"law", p35, [], false⟩
def T0 : Tb := ⟨[], gls, bis⟩
def T1 : Tb := ⟨[i0], gls, bis⟩
def T2 : Tb := ⟨[i0, i1], gls, bis⟩
def T3 : Tb := ⟨[i0, i1, i2], gls, bis⟩
def T4 : Tb := ⟨[i0, i1, i2, i3], gls, bis⟩
def T5 : Tb := ⟨[i0, i1, i2, i3, i4], gls, bis⟩
def T6 : Tb := ⟨[i0, i1, i2, i3, i4, i5], gls, bis⟩
def T7 : Tb := ⟨[i0, i1, i2, i3, i4, i5, i6], gls, bis⟩
def T8 : Tb := ⟨[i0, i1, i2, i3, i4, i5, i6, i7], gls, bis⟩
def T9 : Tb := ⟨[i0, i1, i2, i3, i4, i5, i6, i7, i8], gls, bis⟩
def T10 : Tb := ⟨[i0, i1, i2, i3, i4, i5, i6, i7, i8, i9], gls, bis⟩
def T11 : Tb := ⟨[i0, i1, i2, i3, i4, i5, i6, i7, i8, i9, i10], gls, bis⟩
def T12 : Tb := ⟨[i0, i1, i2, i3, i4, i5, i6, i7, i8, i9, i10, i11], gls, bis⟩
def T13 : Tb := ⟨[i0, i1, i2, i3, i4, i5, i6, i7, i8, i9, i10, i11, i12], gls, bis⟩
def T14 : Tb := ⟨[i0, i1, i2, i3, i4, i5, i6, i7, i8, i9, i10, i11, i12, i13], gls, bis⟩
def T15 : Tb := ⟨[i0, i1, i2, i3, i4, i5, i6, i7, i8, i9, i10, i11, i12, i13, i14], gls, bis⟩
def T16 : Tb := ⟨[i0, i1, i2, i3, i4, i5, i6, i7, i8, i9, i10, i11, i12, i13, i14, i15], gls, bis⟩
def T17 : Tb := ⟨[i0, i1, i2, i3, i4, i5, i6, i7, i8, i9, i10, i11, i12, i13, i14, i15, i16], gls, bis⟩
def T18 : Tb := ⟨[i0, i1, i2, i3, i4, i5, i6, i7, i8, i9, i10, i11, i12, i13, i14, i15, i16, i17], gls, bis⟩
def T19 : Tb := ⟨[i0, i1, i2, i3, i4, i5, i6, i7, i8, i9, i10, i11, i12, i13, i14, i15, i16, i17, i18], gls, bis⟩
def T20 : Tb := ⟨[i0, i1, i2, i3, i4, i5, i6, i7, i8, i9, i10, i11, i12, i13, i14, i15, i16, i17, i18, i19], gls, bis⟩
def T21 : Tb := ⟨[i0, i1, i2, i3, i4, i5, i6, i7, i8, i9, i10, i11, i12, i13, i14, i15, i16, i17, i18, i19, i20], gls, bis⟩
def T22 : Tb := ⟨[i0, i1, i2, i3, i4, i5, i6, i7, i8, i9, i10, i11, i12, i13, i14, i15, i16, i17, i18, i19, i20, i21], gls, bis⟩
def T23 : Tb := ⟨[i0, i1, i2, i3, i4, i5, i6, i7, i8, i9, i10, i11, i12, i13, i14, i15, i16, i17, i18, i19, i20, i21, i22], gls, bis⟩
def T24 : Tb := ⟨[i0, i1, i2, i3, i4, i5, i6, i7, i8, i9, i10, i11, i12, i13, i14, i15, i16, i17, i18, i19, i20, i21, i22, i23], gls, bis⟩
def T25 : Tb := ⟨[i0, i1, i2, i3, i4, i5, i6, i7, i8, i9, i10, i11, i12, i13, i14, i15, i16, i17, i18, i19, i20, i21, i22, i23, i24], gls, bis⟩
def T26 : Tb := ⟨[i0, i1, i2, i3, i4, i5, i6, i7, i8, i9, i10, i11, i12, i13, i14, i15, i16, i17, i18, i19, i20, i21, i22, i23, i24, i25], gls, bis⟩
def T27 : Tb := ⟨[i0, i1, i2, i3, i4, i5, i6, i7, i8, i9, i10, i11, i12, i13, i14, i15, i16, i17, i18, i19, i20, i21, i22, i23, i24, i25, i26], gls, bis⟩
def T28 : Tb := ⟨[i0, i1, i2, i3, i4, i5, i6, i7, i8, i9, i10, i11, i12, i13, i14, i15, i16, i17, i18, i19, i20, i21, i22, i23, i24, i25, i26, i27], gls, bis⟩
def T29 : Tb := ⟨[i0, i1, i2, i3, i4, i5, i6, i7, i8, i9, i10, i11, i12, i13, i14, i15, i16, i17, i18, i19, i20, i21, i22, i23, i24, i25, i26, i27, i28], gls, bis⟩
def T30 : Tb := ⟨[i0, i1, i2, i3, i4, i5, i6, i7, i8, i9, i10, i11, i12, i13, i14, i15, i16, i17, i18, i19, i20, i21, i22, i23, i24, i25, i26, i27, i28, i29], gls, bis⟩
def T31 : Tb := ⟨[i0, i1, i2, i3, i4, i5, i6, i7, i8, i9, i10, i11, i12, i13, i14, i15, i16, i17, i18, i19, i20, i21, i22, i23, i24, i25, i26, i27, i28, i29, i30], gls, bis⟩
def T32 : Tb := ⟨[i0, i1, i2, i3, i4, i5, i6, i7, i8, i9, i10, i11, i12, i13, i14, i15, i16, i17, i18, i19, i20, i21, i22, i23, i24, i25, i26, i27, i28, i29, i30, i31], gls, bis⟩
def T33 : Tb := ⟨[i0, i1, i2, i3, i4, i5, i6, i7, i8, i9, i10, i11, i12, i13, i14, i15, i16, i17, i18, i19, i20, i21, i22, i23, i24, i25, i26, i27, i28, i29, i30, i31, i32], gls, bis⟩
def T34 : Tb := ⟨[i0, i1, i2, i3, i4, i5, i6, i7, i8, i9, i10, i11, i12, i13, i14, i15, i16, i17, i18, i19, i20, i21, i22, i23, i24, i25, i26, i27, i28, i29, i30, i31, i32, i33], gls, bis⟩
def T35 : Tb := ⟨[i0, i1, i2, i3, i4, i5, i6, i7, i8, i9, i10, i11, i12, i13, i14, i15, i16, i17, i18, i19, i20, i21, i22, i23, i24, i25, i26, i27, i28, i29, i30, i31, i32, i33, i34], gls, bis⟩
def T36 : Tb := ⟨[i0, i1, i2, i3, i4, i5, i6, i7, i8, i9, i10, i11, i12, i13, i14, i15, i16, i17, i18, i19, i20, i21, i22, i23, i24, i25, i26, i27, i28, i29, i30, i31, i32, i33, i34, i35], gls, bis⟩
theorem ok0 : okSs T0 n0 ⟨L2.defScope s0, L2.defScope s0⟩ c0 (L2.defBody s0) = true := by decide +kernel
theorem ok1 : okSs T1 n1 ⟨L2.defScope s1, L2.defScope s1⟩ c1 (L2.defBody s1) = true := by decide +kernel
theorem ok2 : okSs T2 n2 ⟨L2.defScope s2, L2.defScope s2⟩ c2 (L2.defBody s2) = true := by decide +kernel
theorem ok3 : okSs T3 n3 ⟨L2.defScope s3, L2.defScope s3⟩ c3 (L2.defBody s3) = true := by decide +kernel
theorem ok4 : okSs T4 n4 ⟨L2.defScope s4, L2.defScope s4⟩ c4 (L2.defBody s4) = true := by decide +kernel
theorem ok5 : okSs T5 n5 ⟨L2.defScope s5, L2.defScope s5⟩ c5 (L2.defBody s5) = true := by decide +kernel
theorem ok6 : okSs T6 n6 ⟨L2.defScope s6, L2.defScope s6⟩ c6 (L2.defBody s6) = true := by decide +kernel
theorem ok7 : okSs T7 n7 ⟨L2.defScope s7, L2.defScope s7⟩ c7 (L2.defBody s7) = true := by decide +kernel
theorem ok8 : okSs T8 n8 ⟨L2.defScope s8, L2.defScope s8⟩ c8 (L2.defBody s8) = true := by decide +kernel
theorem ok9 : okSs T9 n9 ⟨L2.defScope s9, L2.defScope s9⟩ c9 (L2.defBody s9) = true := by decide +kernel
theorem ok10 : okSs T10 n10 ⟨L2.defScope s10, L2.defScope s10⟩ c10 (L2.defBody s10) = true := by decide +kernel
theorem ok11 : okSs T11 n11 ⟨L2.defScope s11, L2.defScope s11⟩ c11 (L2.defBody s11) = true := by decide +kernel
theorem ok12 : okSs T12 n12 ⟨L2.defScope s12, L2.defScope s12⟩ c12 (L2.defBody s12) = true := by decide +kernel
theorem ok13 : okSs T13 n13 ⟨L2.defScope s13, L2.defScope s13⟩ c13 (L2.defBody s13) = true := by decide +kernel
theorem ok14 : okSs T14 n14 ⟨L2.defScope s14, L2.defScope s14⟩ c14 (L2.defBody s14) = true := by decide +kernel
theorem ok15 : okSs T15 n15 ⟨L2.defScope s15, L2.defScope s15⟩ c15 (L2.defBody s15) = true := by decide +kernel
theorem ok16 : okSs T16 n16 ⟨L2.defScope s16, L2.defScope s16⟩ c16 (L2.defBody s16) = true := by decide +kernel
theorem ok17 : okSs T17 n17 ⟨L2.defScope s17, L2.defScope s17⟩ c17 (L2.defBody s17) = true := by decide +kernel
theorem ok18 : okSs T18 n18 ⟨L2.defScope s18, L2.defScope s18⟩ c18 (L2.defBody s18) = true := by decide +kernel
theorem ok19 : okSs T19 n19 ⟨L2.defScope s19, L2.defScope s19⟩ c19 (L2.defBody s19) = true := by decide +kernel
theorem ok20 : okSs T20 n20 ⟨L2.defScope s20, L2.defScope s20⟩ c20 (L2.defBody s20) = true := by decide +kernel
theorem ok21 : okSs T21 n21 ⟨L2.defScope s21, L2.defScope s21⟩ c21 (L2.defBody s21) = true := by decide +kernel
theorem ok22 : okSs T22 n22 ⟨L2.defScope s22, L2.defScope s22⟩ c22 (L2.defBody s22) = true := by decide +kernel
theorem ok23 : okSs T23 n23 ⟨L2.defScope s23, L2.defScope s23⟩ c23 (L2.defBody s23) = true := by decide +kernel
theorem ok24 : okSs T24 n24 ⟨L2.defScope s24, L2.defScope s24⟩ c24 (L2.defBody s24) = true := by decide +kernel
theorem ok25 : okSs T25 n25 ⟨L2.defScope s25, L2.defScope s25⟩ c25 (L2.defBody s25) = true := by decide +kernel
theorem ok26 : okSs T26 n26 ⟨L2.defScope s26, L2.defScope s26⟩ c26 (L2.defBody s26) = true := by decide +kernel
theorem ok27 : okSs T27 n27 ⟨L2.defScope s27, L2.defScope s27⟩ c27 (L2.defBody s27) = true := by decide +kernel
theorem ok28 : okSs T28 n28 ⟨L2.defScope s28, L2.defScope s28⟩ c28 (L2.defBody s28) = true := by decide +kernel
theorem ok29 : okSs T29 n29 ⟨L2.defScope s29, L2.defScope s29⟩ c29 (L2.defBody s29) = true := by decide +kernel
theorem ok30 : okSs T30 n30 ⟨L2.defScope s30, L2.defScope s30⟩ c30 (L2.defBody s30) = true := by decide +kernel
theorem ok31 : okSs T31 n31 ⟨L2.defScope s31, L2.defScope s31⟩ c31 (L2.defBody s31) = true := by decide +kernel
theorem ok32 : okSs T32 n32 ⟨L2.defScope s32, L2.defScope s32⟩ c32 (L2.defBody s32) = true := by decide +kernel
theorem ok33 : okSs T33 n33 ⟨L2.defScope s33, L2.defScope s33⟩ c33 (L2.defBody s33) = true := by decide +kernel
theorem ok34 : okSs T34 n34 ⟨L2.defScope s34, L2.defScope s34⟩ c34 (L2.defBody s34) = true := by decide +kernel
theorem ok35 : okSs T35 n35 ⟨L2.defScope s35, L2.defScope s35⟩ c35 (L2.defBody s35) = true := by decide +kernel
end Law_k42

namespace Law_k42
open PySem PySem.Spec PyProof.Rows L2 DL
def G : Fns := ⟨fun j => match j with
  | 0 => spCommon | 1 => spMade | 2 => spBelowW | 3 => spW | 4 => spUnitOf | 5 => spAns | 6 => spAnss | 7 => spNou | 8 => spBeats | 9 => spEnds | 10 => spStr | 11 => spEbb | 12 => spSizeBy | 13 => spBounds | 14 => spAbove | 15 => spUnder | 16 => spLet | 17 => spHand | 18 => spTake | 19 => spPick | 20 => spGain | 21 => spWishes | 22 => spSetting | 23 => spUnit | 24 => spW | 25 => spSizes | 26 => spNgt | 27 => spAlone | 28 => spShL | 29 => spEndsL | 30 => spChecks | 31 => spSides | 32 => spLetL | 33 => spLimits | 34 => spRoomy | _ => spLaw, glD⟩
theorem G0 : G.fn 0 = spCommon := rfl
theorem G1 : G.fn 1 = spMade := rfl
theorem G2 : G.fn 2 = spBelowW := rfl
theorem G3 : G.fn 3 = spW := rfl
theorem G4 : G.fn 4 = spUnitOf := rfl
theorem G5 : G.fn 5 = spAns := rfl
theorem G6 : G.fn 6 = spAnss := rfl
theorem G7 : G.fn 7 = spNou := rfl
theorem G8 : G.fn 8 = spBeats := rfl
theorem G9 : G.fn 9 = spEnds := rfl
theorem G10 : G.fn 10 = spStr := rfl
theorem G11 : G.fn 11 = spEbb := rfl
theorem G12 : G.fn 12 = spSizeBy := rfl
theorem G13 : G.fn 13 = spBounds := rfl
theorem G14 : G.fn 14 = spAbove := rfl
theorem G15 : G.fn 15 = spUnder := rfl
theorem G16 : G.fn 16 = spLet := rfl
theorem G17 : G.fn 17 = spHand := rfl
theorem G18 : G.fn 18 = spTake := rfl
theorem G19 : G.fn 19 = spPick := rfl
theorem G20 : G.fn 20 = spGain := rfl
theorem G21 : G.fn 21 = spWishes := rfl
theorem G22 : G.fn 22 = spSetting := rfl
theorem G23 : G.fn 23 = spUnit := rfl
theorem G24 : G.fn 24 = spW := rfl
theorem G25 : G.fn 25 = spSizes := rfl
theorem G26 : G.fn 26 = spNgt := rfl
theorem G27 : G.fn 27 = spAlone := rfl
theorem G28 : G.fn 28 = spShL := rfl
theorem G29 : G.fn 29 = spEndsL := rfl
theorem G30 : G.fn 30 = spChecks := rfl
theorem G31 : G.fn 31 = spSides := rfl
theorem G32 : G.fn 32 = spLetL := rfl
theorem G33 : G.fn 33 = spLimits := rfl
theorem G34 : G.fn 34 = spRoomy := rfl
theorem len0 : ∀ ds S Q, G.fn 0 ds S Q → ds.length = p0.length := spCommon_len
theorem len1 : ∀ ds S Q, G.fn 1 ds S Q → ds.length = p1.length := spMade_len
theorem len2 : ∀ ds S Q, G.fn 2 ds S Q → ds.length = p2.length := spBelowW_len
theorem len3 : ∀ ds S Q, G.fn 3 ds S Q → ds.length = p3.length := spW_len
theorem len4 : ∀ ds S Q, G.fn 4 ds S Q → ds.length = p4.length := spUnitOf_len
theorem len5 : ∀ ds S Q, G.fn 5 ds S Q → ds.length = p5.length := spAns_len
theorem len6 : ∀ ds S Q, G.fn 6 ds S Q → ds.length = p6.length := spAnss_len
theorem len7 : ∀ ds S Q, G.fn 7 ds S Q → ds.length = p7.length := spNou_len
theorem len8 : ∀ ds S Q, G.fn 8 ds S Q → ds.length = p8.length := spBeats_len
theorem len9 : ∀ ds S Q, G.fn 9 ds S Q → ds.length = p9.length := spEnds_len
theorem len10 : ∀ ds S Q, G.fn 10 ds S Q → ds.length = p10.length := spStr_len
theorem len11 : ∀ ds S Q, G.fn 11 ds S Q → ds.length = p11.length := spEbb_len
theorem len12 : ∀ ds S Q, G.fn 12 ds S Q → ds.length = p12.length := spSizeBy_len
theorem len13 : ∀ ds S Q, G.fn 13 ds S Q → ds.length = p13.length := spBounds_len
theorem len14 : ∀ ds S Q, G.fn 14 ds S Q → ds.length = p14.length := spAbove_len
theorem len15 : ∀ ds S Q, G.fn 15 ds S Q → ds.length = p15.length := spUnder_len
theorem len16 : ∀ ds S Q, G.fn 16 ds S Q → ds.length = p16.length := spLet_len
theorem len17 : ∀ ds S Q, G.fn 17 ds S Q → ds.length = p17.length := spHand_len
theorem len18 : ∀ ds S Q, G.fn 18 ds S Q → ds.length = p18.length := spTake_len
theorem len19 : ∀ ds S Q, G.fn 19 ds S Q → ds.length = p19.length := spPick_len
theorem len20 : ∀ ds S Q, G.fn 20 ds S Q → ds.length = p20.length := spGain_len
theorem len21 : ∀ ds S Q, G.fn 21 ds S Q → ds.length = p21.length := spWishes_len
theorem len22 : ∀ ds S Q, G.fn 22 ds S Q → ds.length = p22.length := spSetting_len
theorem len23 : ∀ ds S Q, G.fn 23 ds S Q → ds.length = p23.length := spUnit_len
theorem len24 : ∀ ds S Q, G.fn 24 ds S Q → ds.length = p24.length := spW_len
theorem len25 : ∀ ds S Q, G.fn 25 ds S Q → ds.length = p25.length := spSizes_len
theorem len26 : ∀ ds S Q, G.fn 26 ds S Q → ds.length = p26.length := spNgt_len
theorem len27 : ∀ ds S Q, G.fn 27 ds S Q → ds.length = p27.length := spAlone_len
theorem len28 : ∀ ds S Q, G.fn 28 ds S Q → ds.length = p28.length := spShL_len
theorem len29 : ∀ ds S Q, G.fn 29 ds S Q → ds.length = p29.length := spEndsL_len
theorem len30 : ∀ ds S Q, G.fn 30 ds S Q → ds.length = p30.length := spChecks_len
theorem len31 : ∀ ds S Q, G.fn 31 ds S Q → ds.length = p31.length := spSides_len
theorem len32 : ∀ ds S Q, G.fn 32 ds S Q → ds.length = p32.length := spLetL_len
theorem len33 : ∀ ds S Q, G.fn 33 ds S Q → ds.length = p33.length := spLimits_len
theorem len34 : ∀ ds S Q, G.fn 34 ds S Q → ds.length = p34.length := spRoomy_len
theorem len35 : ∀ ds S Q, spLaw ds S Q → ds.length = p35.length := by rintro _ _ _ ⟨_, rfl, _⟩; rfl
theorem body0 : ∀ ds S Q, G.fn 0 ds S Q → wpSs G c0 (startD n0.length ds) S { nx := fun _ S' => Q .non S', rt := Q } := common_ok
theorem body1 : ∀ ds S Q, G.fn 1 ds S Q → wpSs G c1 (startD n1.length ds) S { nx := fun _ S' => Q .non S', rt := Q } := made_ok G0
theorem body2 : ∀ ds S Q, G.fn 2 ds S Q → wpSs G c2 (startD n2.length ds) S { nx := fun _ S' => Q .non S', rt := Q } := belowW_ok
theorem body3 : ∀ ds S Q, G.fn 3 ds S Q → wpSs G c3 (startD n3.length ds) S { nx := fun _ S' => Q .non S', rt := Q } := wishAt_ok
theorem body4 : ∀ ds S Q, G.fn 4 ds S Q → wpSs G c4 (startD n4.length ds) S { nx := fun _ S' => Q .non S', rt := Q } := unitOf_ok
theorem body5 : ∀ ds S Q, G.fn 5 ds S Q → wpSs G c5 (startD n5.length ds) S { nx := fun _ S' => Q .non S', rt := Q } := ans_ok G4 rfl
theorem body6 : ∀ ds S Q, G.fn 6 ds S Q → wpSs G c6 (startD n6.length ds) S { nx := fun _ S' => Q .non S', rt := Q } := anss_ok G5 rfl
theorem body7 : ∀ ds S Q, G.fn 7 ds S Q → wpSs G c7 (startD n7.length ds) S { nx := fun _ S' => Q .non S', rt := Q } := nou_ok G3
theorem body8 : ∀ ds S Q, G.fn 8 ds S Q → wpSs G c8 (startD n8.length ds) S { nx := fun _ S' => Q .non S', rt := Q } := beats_ok
theorem body9 : ∀ ds S Q, G.fn 9 ds S Q → wpSs G c9 (startD n9.length ds) S { nx := fun _ S' => Q .non S', rt := Q } := ends_ok
theorem body10 : ∀ ds S Q, G.fn 10 ds S Q → wpSs G c10 (startD n10.length ds) S { nx := fun _ S' => Q .non S', rt := Q } := str_ok
theorem body11 : ∀ ds S Q, G.fn 11 ds S Q → wpSs G c11 (startD n11.length ds) S { nx := fun _ S' => Q .non S', rt := Q } := ebb_ok G6 G9 G4 G1 G7 G8 G10 rfl
theorem body12 : ∀ ds S Q, G.fn 12 ds S Q → wpSs G c12 (startD n12.length ds) S { nx := fun _ S' => Q .non S', rt := Q } := sizeBy_ok
theorem body13 : ∀ ds S Q, G.fn 13 ds S Q → wpSs G c13 (startD n13.length ds) S { nx := fun _ S' => Q .non S', rt := Q } := bounds_ok
theorem body14 : ∀ ds S Q, G.fn 14 ds S Q → wpSs G c14 (startD n14.length ds) S { nx := fun _ S' => Q .non S', rt := Q } := above_ok G2
theorem body15 : ∀ ds S Q, G.fn 15 ds S Q → wpSs G c15 (startD n15.length ds) S { nx := fun _ S' => Q .non S', rt := Q } := under_ok G2
theorem body16 : ∀ ds S Q, G.fn 16 ds S Q → wpSs G c16 (startD n16.length ds) S { nx := fun _ S' => Q .non S', rt := Q } := let_ok G11 G12 G8 G13 G14 G15 rfl rfl
theorem body17 : ∀ ds S Q, G.fn 17 ds S Q → wpSs G c17 (startD n17.length ds) S { nx := fun _ S' => Q .non S', rt := Q } := hand_ok
theorem body18 : ∀ ds S Q, G.fn 18 ds S Q → wpSs G c18 (startD n18.length ds) S { nx := fun _ S' => Q .non S', rt := Q } := take_ok
theorem body19 : ∀ ds S Q, G.fn 19 ds S Q → wpSs G c19 (startD n19.length ds) S { nx := fun _ S' => Q .non S', rt := Q } := pick_ok G18
theorem body20 : ∀ ds S Q, G.fn 20 ds S Q → wpSs G c20 (startD n20.length ds) S { nx := fun _ S' => Q .non S', rt := Q } := gain_ok G18 G19
theorem body21 : ∀ ds S Q, G.fn 21 ds S Q → wpSs G c21 (startD n21.length ds) S { nx := fun _ S' => Q .non S', rt := Q } := wishes_ok G18 G19
theorem body22 : ∀ ds S Q, G.fn 22 ds S Q → wpSs G c22 (startD n22.length ds) S { nx := fun _ S' => Q .non S', rt := Q } := setting_ok G18 G20 G21
theorem body23 : ∀ ds S Q, G.fn 23 ds S Q → wpSs G c23 (startD n23.length ds) S { nx := fun _ S' => Q .non S', rt := Q } := unit_ok
theorem body24 : ∀ ds S Q, G.fn 24 ds S Q → wpSs G c24 (startD n24.length ds) S { nx := fun _ S' => Q .non S', rt := Q } := wishL_ok
theorem body25 : ∀ ds S Q, G.fn 25 ds S Q → wpSs G c25 (startD n25.length ds) S { nx := fun _ S' => Q .non S', rt := Q } := sizes_ok G23 G24
theorem body26 : ∀ ds S Q, G.fn 26 ds S Q → wpSs G c26 (startD n26.length ds) S { nx := fun _ S' => Q .non S', rt := Q } := ngt_ok
theorem body27 : ∀ ds S Q, G.fn 27 ds S Q → wpSs G c27 (startD n27.length ds) S { nx := fun _ S' => Q .non S', rt := Q } := alone_ok G26
theorem body28 : ∀ ds S Q, G.fn 28 ds S Q → wpSs G c28 (startD n28.length ds) S { nx := fun _ S' => Q .non S', rt := Q } := shL_ok G25 G26 G27
theorem body29 : ∀ ds S Q, G.fn 29 ds S Q → wpSs G c29 (startD n29.length ds) S { nx := fun _ S' => Q .non S', rt := Q } := endsL_ok G28 G23
theorem body30 : ∀ ds S Q, G.fn 30 ds S Q → wpSs G c30 (startD n30.length ds) S { nx := fun _ S' => Q .non S', rt := Q } := checks_ok
theorem body31 : ∀ ds S Q, G.fn 31 ds S Q → wpSs G c31 (startD n31.length ds) S { nx := fun _ S' => Q .non S', rt := Q } := sides_ok
theorem body32 : ∀ ds S Q, G.fn 32 ds S Q → wpSs G c32 (startD n32.length ds) S { nx := fun _ S' => Q .non S', rt := Q } := letL_ok G30 G31
theorem body33 : ∀ ds S Q, G.fn 33 ds S Q → wpSs G c33 (startD n33.length ds) S { nx := fun _ S' => Q .non S', rt := Q } := limits_ok G18 G19
theorem body34 : ∀ ds S Q, G.fn 34 ds S Q → wpSs G c34 (startD n34.length ds) S { nx := fun _ S' => Q .non S', rt := Q } := roomy_ok
/-! ### texts -/
theorem wd_rep : ∀ i, i < 12 → decide ((reprText (wdS i)).length ≤ 1000) = true := by decide +kernel
theorem repr_v {a b f bits l s u : Int} {gs : List Int} {lo hi sl fa st : Int} (hg : GsOk 8 gs) {r : D} (h : Verd a b f bits l s u gs lo hi sl fa st r) : ∃ p : PyData, ∀ (S : DStore) (m : Bool) (Q : QE), Q (.str p.shown) S → biD .repr1 m [.lst [r, r]] S Q := by
  have g2 := hg.most
  rcases h with ⟨t, i, h1, h2, _, _, rfl⟩ | ⟨_, rfl⟩
  · have ht : t < 10 := by unfold beats at h2; split at h2 <;> omega
    refine ⟨.list [.tuple [.str "refused", .int t, .str (wdS i), .bool (ab a b f bits l s u gs hi sl fa st t i)], .tuple [.str "refused", .int t, .str (wdS i), .bool (ab a b f bits l s u gs hi sl fa st t i)]], fun S m Q q => reprW4 rfl ?_ q⟩
    have e1 : decide ((reprText ("refused" : Str)).length ≤ 1000) = true := by decide +kernel
    have e2 : decide (((t : Int)).natAbs < 10 ^ 500) = true := decide_eq_true (Nat.lt_of_lt_of_le (show ((t : Int)).natAbs < 10 ^ 2 by omega) (Nat.pow_le_pow_right (by decide) (by decide)))
    simp only [okW, okWs, e1, e2, wd_rep i h1]; rfl
  · refine ⟨.list [.tuple [.str "let"], .tuple [.str "let"]], fun S m Q q => reprW4 rfl ?_ q⟩
    have e1 : decide ((reprText ("let" : Str)).length ≤ 1000) = true := by decide +kernel
    simp only [okW, okWs, e1]; rfl
theorem wI {i : Int} {k : Nat} (h : i.natAbs < 2 ^ k) (hk : k ≤ 1600) : okW (.int i) = true := decide_eq_true (wide_of h hk)
theorem wGs : ∀ (gs : List Int), (∀ x ∈ gs, -600 ≤ x ∧ x ≤ 600) → okWs (gs.map PyData.int) = true ∧ szWs (gs.map PyData.int) = 506 * gs.length
  | [], _ => ⟨rfl, rfl⟩
  | x :: xs, h => by
    obtain ⟨h1, h2⟩ := wGs xs fun y hy => h y (List.mem_cons_of_mem _ hy)
    have hx := h x (by simp)
    have e := wI (i := x) (k := 20) (by omega) (by decide)
    refine ⟨?_, ?_⟩
    · simp only [List.map_cons, okWs, e, h1]; rfl
    · simp only [List.map_cons, szWs, szW, h2, List.length_cons]; omega
theorem pur_gs (gs : List Int) : purs (gs.map D.int) = some (gs.map PyData.int) := purs_map D.int PyData.int gs fun _ _ => rfl
theorem dep_gs : ∀ (gs : List Int), PyData.depthAll (gs.map PyData.int) ≤ 1
  | [] => Nat.zero_le _
  | x :: xs => by
    have := dep_gs xs
    simp only [List.map_cons, PyData.depthAll, PyData.depth]; omega
theorem repr_in {a b f bits l s u : Int} {gs : List Int} {lo hi sl fa st : Int} (hh : HB a b f bits) (hl : LB l s u) (hg : GsOk 8 gs) (hf : FB lo hi sl fa st) : ∃ p : PyData, ∀ (S : DStore) (m : Bool) (Q : QE), Q (.str p.shown) S → biD .repr1 m [.tup [hndD a b f bits, letsD l s u, fenD lo hi sl fa st, .tup (gs.map D.int)]] S Q := by
  have g2 := hg.most
  have := hh.a1; have := hh.a2; have := hh.b1; have := hh.b2; have := hh.h.f1; have := hh.h.f2; have := hh.h.k1; have := hh.h.k2
  have := hl.l0; have := hl.l1; have := hl.s0; have := hl.s1; have := hl.q0; have := hl.q1
  have i1 := wI (i := a) (k := 20) (by omega) (by decide)
  have i2 := wI (i := b) (k := 20) (by omega) (by decide)
  have i3 := wI (i := f) (k := 20) (by omega) (by decide)
  have i4 := wI (i := bits) (k := 20) (by omega) (by decide)
  have i5 := wI (i := l) (k := 20) (by omega) (by decide)
  have i6 := wI (i := s) (k := 20) (by omega) (by decide)
  have i7 := wI (i := u) (k := 20) (by omega) (by decide)
  have j1 := wI hf.lo (by decide)
  have j2 := wI hf.hi (by decide)
  have j3 := wI hf.sl (by decide)
  have j4 := wI hf.fa (by decide)
  have j5 := wI hf.st (by decide)
  obtain ⟨w1, w2⟩ := wGs gs hg.bd
  have dg := dep_gs gs
  refine ⟨.tuple [.tuple [.int a, .int b, .int f, .int bits], .tuple [.int l, .int s, .int u], .tuple [.int lo, .int hi, .int sl, .int fa, .int st], .tuple (gs.map PyData.int)], fun S m Q q => reprW ?_ ?_ ?_ ?_ q⟩
  · simp only [hndD, letsD, fenD, purS, pur, purs, pur_gs]; rfl
  · simp only [okW.eq_6, okWs, i1, i2, i3, i4, i5, i6, i7, j1, j2, j3, j4, j5, w1]; rfl
  · simp only [szW, szWs, w2]; omega
  · simp only [PyData.depth, PyData.depthAll]; omega
theorem body35 : ∀ ds S Q, spLaw ds S Q → wpSs G c35 (startD n35.length ds) S { nx := fun _ S' => Q .non S', rt := Q } := by
  rintro ds S Q ⟨ns, rfl, hns, hQ⟩
  unfold c35 n35
  simp_arith only [List.length_map]
  have hc1 : 1 ≤ (if (if (ns.length : Int) < 3 then (ns.length : Int) else 3) > 1 then (if (ns.length : Int) < 3 then (ns.length : Int) else 3) else 1) ∧ (if (if (ns.length : Int) < 3 then (ns.length : Int) else 3) > 1 then (if (ns.length : Int) < 3 then (ns.length : Int) else 3) else 1) ≤ 3 := by split <;> split <;> omega
  generalize (if (if (ns.length : Int) < 3 then (ns.length : Int) else 3) > 1 then (if (ns.length : Int) < 3 then (ns.length : Int) else 3) else 1) = cells at *
  (repeat (refine And.intro (by first | omega | exact DL.mul_small_left (by omega) (by omega) | exact DL.mul_small_right (by omega) (by omega) | exact DL.div_om (by omega) (by omega) (by omega) | exact DL.cpow1 (by omega) (by omega) | exact ⟨by omega, by omega⟩ | exact DL.len_le (by (try simp only [List.length_map, List.length_append, List.length_cons, List.length_nil]); omega) | exact DL.len_lt (by (try simp only [List.length_map, List.length_append, List.length_cons, List.length_nil]); omega) | trivial | decide) ?_))
  refine walk_range (fun i ρ S' => ∃ r1 r2 r3 r4 r5 r6 r7 r8 r9 r10 r11 r12 r13 r14, ρ = [some (.scr (ns.map D.int)), r1, r2, r3, r4, r5, r6, r7, r8, r9, r10, r11, r12, r13, r14]) ⟨_, _, _, _, _, _, _, _, _, _, _, _, _, _, rfl⟩ (fun _ _ _ _ => trivial) (fun k ρ S' hk hp => ?_) (fun ρ S' hp => ?_)
  · obtain ⟨r1, r2, r3, r4, r5, r6, r7, r8, r9, r10, r11, r12, r13, r14, rfl⟩ := hp
    unfold DL.forTurn
    (try simp_arith only [G17])
    refine handP (by omega) (by omega) fun n S1 hP _ _ => ?_
    (try simp_arith only [G22])
    refine ⟨n, _, 7, rfl, hP, by omega, by omega, by omega, fun a b f bits l s u gs S2 hh hl hg hP _ => ?_⟩
    have g1 := hg.two
    have g2 := hg.most
    have hg8 : GsOk 8 gs := ⟨g1, by omega, hg.bd⟩
    (try simp_arith only [G29])
    refine ⟨trivial, a, b, f, bits, l, s, u, gs, rfl, hh, hl, hg8, fun q kvs S3 hR hK => ?_⟩
    replace hP := hP.keep hK
    (try simp_arith only [G34])
    refine ⟨trivial, a, b, f, bits, l, s, u, gs, q, kvs, rfl, hh, hl, hg8, hR, fun bits' S4 b4 bm k4 => ?_⟩
    replace hP := hP.keep k4
    replace hR := hR.keep (k4 _ _ hR.at')
    (try simp_arith only [])
    (repeat (refine And.intro (by first | omega | exact DL.mul_small_left (by omega) (by omega) | exact DL.mul_small_right (by omega) (by omega) | exact DL.div_om (by omega) (by omega) (by omega) | exact DL.cpow1 (by omega) (by omega) | exact ⟨by omega, by omega⟩ | exact DL.len_le (by (try simp only [List.length_map, List.length_append, List.length_cons, List.length_nil]); omega) | exact DL.len_lt (by (try simp only [List.length_map, List.length_append, List.length_cons, List.length_nil]); omega) | trivial | decide) ?_))
    refine walk_range (fun i ρ S' => ∃ (r1 r4 r9 r10 r11 r12 r13 r14 : Option D), ρ = [some (.scr (ns.map D.int)), r1, some (.ref n), some (hndD a b f bits'), r4, some (letsD l s u), some (.tup (gs.map D.int)), some (.ref q), some (.int (unitU f gs * pw2 f)), r9, r10, r11, r12, r13, r14] ∧ Rch a b f bits l s u gs q S' kvs ∧ Pot n (90 + 22 * i) S') ⟨_, _, _, _, _, _, _, _, rfl, hR, hP.mono (by omega)⟩ (fun _ _ _ _ => trivial) (fun i ρ S5 hi hp => ?_) (fun ρ S5 hp => ?_)
    · obtain ⟨r1, r4, r9, r10, r11, r12, r13, r14, rfl, hR, hP⟩ := hp
      have hqn := pot_ne hP hR.at'
      unfold DL.forTurn
      unfold hndD
      (try simp_arith only [G18])
      refine takeP hP (by omega) (by omega) (by omega) fun v S6 v0 v1 hP hF _ => ?_
      replace hR := hR.keep (hF.get hqn hR.at')
      have cc : cutD [D.int a, .int b, .int f, .int bits'] none (some 3) = [.int a, .int b, .int f] := rfl
      (try simp_arith only [slT, cc, G18])
      have hbt : 4 ≤ (if (if (bits' - if v = 0 then 1 else 0) > 4 then bits' - if v = 0 then 1 else 0 else 4) < 40 then if (bits' - if v = 0 then 1 else 0) > 4 then bits' - if v = 0 then 1 else 0 else 4 else 40) ∧ (if (if (bits' - if v = 0 then 1 else 0) > 4 then bits' - if v = 0 then 1 else 0 else 4) < 40 then if (bits' - if v = 0 then 1 else 0) > 4 then bits' - if v = 0 then 1 else 0 else 4 else 40) ≤ 40 := by
        generalize (if v = 0 then (1 : Int) else 0) = e
        split <;> split <;> omega
      generalize (if (if (bits' - if v = 0 then 1 else 0) > 4 then bits' - if v = 0 then 1 else 0 else 4) < 40 then if (bits' - if v = 0 then 1 else 0) > 4 then bits' - if v = 0 then 1 else 0 else 4 else 40) = bt at *
      have hh2 : HB a b f bt := ⟨⟨hh.h.a1, hh.h.a2, hh.h.b1, hh.h.b2, hh.h.f1, hh.h.f2, hbt.1, hbt.2⟩, hh.a1, hh.a2, hh.b1, hh.b2⟩
      refine ⟨by decide, takeP hP (by omega) (by omega) (by omega) fun v2 S7 w0 w1 hP hF _ => ?_⟩
      replace hR := hR.keep (hF.get hqn hR.at')
      rw [G33]
      refine ⟨n, _, a, b, f, bits, l, s, u, gs, q, kvs, v2, rfl, hP, by omega, hh, hl, hg8, hR, w0, by omega, fun lo hi sl fa st S8 hf hP hq8 => ?_⟩
      replace hR := hR.keep hq8
      rw [G32]
      refine ⟨a, b, f, bt, bits, l, s, u, gs, q, kvs, lo, hi, sl, fa, st, rfl, hh2, hl, hg8, hR, hf, fun r hr => ?_⟩
      obtain ⟨p, hp⟩ := repr_in hh2 hl hg8 hf
      obtain ⟨pr, hpr⟩ := repr_v hg8 hr
      have hD : ∀ x : Int, D.tup [.int a, .int b, .int f, .int x] = hndD a b f x := fun _ => rfl
      simp only [hD]
      refine hp _ _ _ ?_
      rw [G16]
      refine ⟨a, b, f, bt, l, s, u, gs, lo, hi, sl, fa, st, rfl, hh2, hl, hg8, hf, fun r1' S9 v1' k9 => ?_⟩
      refine ⟨a, b, f, bt, l, s, u, gs, lo, hi, sl, fa, st, rfl, hh2, hl, hg8, hf, fun r2' S10 v2' k10 => ?_⟩
      have e1 := Verd.uniq _ _ _ _ _ _ _ _ _ _ _ _ _ hr v1'
      have e2 := Verd.uniq _ _ _ _ _ _ _ _ _ _ _ _ _ hr v2'
      subst e1 e2
      replace hR := hR.keep (k10 _ _ (k9 _ _ hR.at'))
      replace hP := (hP.keep k9).keep k10
      refine hpr _ _ _ (hpr _ _ _ ?_)
      (try simp_arith only [])
      refine hp _ _ _ ?_
      (try simp_arith only [])
      exact ⟨_, _, _, _, _, _, _, _, rfl, hR, hP.mono (by omega)⟩
    · obtain ⟨r1, r4, r9, r10, r11, r12, r13, r14, rfl, hR, hP⟩ := hp
      simp only [s_nilA]
      exact ⟨_, _, _, _, _, _, _, _, _, _, _, _, _, _, rfl⟩
  · obtain ⟨r1, r2, r3, r4, r5, r6, r7, r8, r9, r10, r11, r12, r13, r14, rfl⟩ := hp
    (try simp_arith only [])
    exact hQ _
end Law_k42

namespace Law_k42
open PySem PySem.Spec PyProof.Rows L2 DL
theorem kb16_0 {K : PySem.W.Frag} {kV dc pm cd ct : Value} {an : Option Addr} : KBinds K (PySem.W.fnOf "let" "let" (L2.defArgs s16) (L2.defBody s16) (L2.defScope s16) .none kV dc pm an cd ct) p16 ["wishes", "limits", "rule", "hand"] (gK .none 4 [3, 2, 1, 0]) (gK .non 4 [3, 2, 1, 0]) :=
  kb_kw (fun h => nomatch h) fun us ws h1 h2 => match us, ws, h1, h2 with | [], [_, _, _, _], _, _ => rfl
theorem all_mk {l : PySem.W.OpenLaw} {w : World} {K : PySem.W.Frag} {h : Heap} {mg : Str → Option Value} {fa : Addr} (X : K.In h) (Gn : h.Ns mainGlobals mg) (hfa : mg "law" = some (.ref fa))
    {f0 f1 f2 f3 f4 f5 f6 f7 f8 f9 f10 f11 f12 f13 f14 f15 f16 f17 f18 f19 f20 f21 f22 f23 f24 f25 f26 f27 f28 f29 f30 f31 f32 f33 f34 f35 : Addr} {od0 an0 od1 an1 od2 an2 od3 an3 od4 an4 od5 an5 od6 an6 od7 an7 od8 an8 od9 an9 od10 an10 od11 an11 od12 an12 od13 an13 od14 an14 od15 an15 od16 an16 od17 an17 od18 an18 od19 an19 od20 an20 od21 an21 od22 an22 od23 an23 od24 an24 od25 an25 od26 an26 od27 an27 od28 an28 od29 an29 od30 an30 od31 an31 od32 an32 od33 an33 od34 an34 od35 an35 : Option Addr} {sl0 sl1 sl2 sl3 sl4 sl5 sl6 sl7 sl8 sl9 sl10 sl11 sl12 sl13 sl14 sl15 sl16 sl17 sl18 sl19 sl20 sl21 sl22 sl23 sl24 sl25 sl26 sl27 sl28 sl29 sl30 sl31 sl32 sl33 sl34 sl35 : Array (Option Value)} {oc0 kV0 dc0 pm0 cd0 ct0 oc1 kV1 dc1 pm1 cd1 ct1 oc2 kV2 dc2 pm2 cd2 ct2 oc3 kV3 dc3 pm3 cd3 ct3 oc4 kV4 dc4 pm4 cd4 ct4 oc5 kV5 dc5 pm5 cd5 ct5 oc6 kV6 dc6 pm6 cd6 ct6 oc7 kV7 dc7 pm7 cd7 ct7 oc8 kV8 dc8 pm8 cd8 ct8 oc9 kV9 dc9 pm9 cd9 ct9 oc10 kV10 dc10 pm10 cd10 ct10 oc11 kV11 dc11 pm11 cd11 ct11 oc12 kV12 dc12 pm12 cd12 ct12 oc13 kV13 dc13 pm13 cd13 ct13 oc14 kV14 dc14 pm14 cd14 ct14 oc15 kV15 dc15 pm15 cd15 ct15 oc16 kV16 dc16 pm16 cd16 ct16 oc17 kV17 dc17 pm17 cd17 ct17 oc18 kV18 dc18 pm18 cd18 ct18 oc19 kV19 dc19 pm19 cd19 ct19 oc20 kV20 dc20 pm20 cd20 ct20 oc21 kV21 dc21 pm21 cd21 ct21 oc22 kV22 dc22 pm22 cd22 ct22 oc23 kV23 dc23 pm23 cd23 ct23 oc24 kV24 dc24 pm24 cd24 ct24 oc25 kV25 dc25 pm25 cd25 ct25 oc26 kV26 dc26 pm26 cd26 ct26 oc27 kV27 dc27 pm27 cd27 ct27 oc28 kV28 dc28 pm28 cd28 ct28 oc29 kV29 dc29 pm29 cd29 ct29 oc30 kV30 dc30 pm30 cd30 ct30 oc31 kV31 dc31 pm31 cd31 ct31 oc32 kV32 dc32 pm32 cd32 ct32 oc33 kV33 dc33 pm33 cd33 ct33 oc34 kV34 dc34 pm34 cd34 ct34 oc35 kV35 dc35 pm35 cd35 ct35 : Value}
    (a0 : PySem.W.nsIn K mainGlobals "common" = some (some (.ref f0))) (l0 : K.lookup f0 = some ⟨oc0, od0, .func (PySem.W.fnOf "common" "common" (L2.defArgs s0) (L2.defBody s0) (L2.defScope s0) .none kV0 dc0 pm0 an0 cd0 ct0), sl0⟩) (d0 : PySem.W.codeIn K cd0 "common" = true) (k0 : PySem.W.keepIn K (.ref f0) = true)
    (a1 : PySem.W.nsIn K mainGlobals "made" = some (some (.ref f1))) (l1 : K.lookup f1 = some ⟨oc1, od1, .func (PySem.W.fnOf "made" "made" (L2.defArgs s1) (L2.defBody s1) (L2.defScope s1) .none kV1 dc1 pm1 an1 cd1 ct1), sl1⟩) (d1 : PySem.W.codeIn K cd1 "made" = true) (k1 : PySem.W.keepIn K (.ref f1) = true)
    (a2 : PySem.W.nsIn K mainGlobals "is_below" = some (some (.ref f2))) (l2 : K.lookup f2 = some ⟨oc2, od2, .func (PySem.W.fnOf "is_below" "is_below" (L2.defArgs s2) (L2.defBody s2) (L2.defScope s2) .none kV2 dc2 pm2 an2 cd2 ct2), sl2⟩) (d2 : PySem.W.codeIn K cd2 "is_below" = true) (k2 : PySem.W.keepIn K (.ref f2) = true)
    (a3 : PySem.W.nsIn K mainGlobals "wish_at" = some (some (.ref f3))) (l3 : K.lookup f3 = some ⟨oc3, od3, .func (PySem.W.fnOf "wish_at" "wish_at" (L2.defArgs s3) (L2.defBody s3) (L2.defScope s3) .none kV3 dc3 pm3 an3 cd3 ct3), sl3⟩) (d3 : PySem.W.codeIn K cd3 "wish_at" = true) (k3 : PySem.W.keepIn K (.ref f3) = true)
    (a4 : PySem.W.nsIn K mainGlobals "unit_of" = some (some (.ref f4))) (l4 : K.lookup f4 = some ⟨oc4, od4, .func (PySem.W.fnOf "unit_of" "unit_of" (L2.defArgs s4) (L2.defBody s4) (L2.defScope s4) .none kV4 dc4 pm4 an4 cd4 ct4), sl4⟩) (d4 : PySem.W.codeIn K cd4 "unit_of" = true) (k4 : PySem.W.keepIn K (.ref f4) = true)
    (a5 : PySem.W.nsIn K mainGlobals "answers_to" = some (some (.ref f5))) (l5 : K.lookup f5 = some ⟨oc5, od5, .func (PySem.W.fnOf "answers_to" "answers_to" (L2.defArgs s5) (L2.defBody s5) (L2.defScope s5) .none kV5 dc5 pm5 an5 cd5 ct5), sl5⟩) (d5 : PySem.W.codeIn K cd5 "answers_to" = true) (k5 : PySem.W.keepIn K (.ref f5) = true)
    (a6 : PySem.W.nsIn K mainGlobals "answers" = some (some (.ref f6))) (l6 : K.lookup f6 = some ⟨oc6, od6, .func (PySem.W.fnOf "answers" "answers" (L2.defArgs s6) (L2.defBody s6) (L2.defScope s6) .none kV6 dc6 pm6 an6 cd6 ct6), sl6⟩) (d6 : PySem.W.codeIn K cd6 "answers" = true) (k6 : PySem.W.keepIn K (.ref f6) = true)
    (a7 : PySem.W.nsIn K mainGlobals "of_noughts" = some (some (.ref f7))) (l7 : K.lookup f7 = some ⟨oc7, od7, .func (PySem.W.fnOf "of_noughts" "of_noughts" (L2.defArgs s7) (L2.defBody s7) (L2.defScope s7) .none kV7 dc7 pm7 an7 cd7 ct7), sl7⟩) (d7 : PySem.W.codeIn K cd7 "of_noughts" = true) (k7 : PySem.W.keepIn K (.ref f7) = true)
    (a8 : PySem.W.nsIn K mainGlobals "beats_of" = some (some (.ref f8))) (l8 : K.lookup f8 = some ⟨oc8, od8, .func (PySem.W.fnOf "beats_of" "beats_of" (L2.defArgs s8) (L2.defBody s8) (L2.defScope s8) .none kV8 dc8 pm8 an8 cd8 ct8), sl8⟩) (d8 : PySem.W.codeIn K cd8 "beats_of" = true) (k8 : PySem.W.keepIn K (.ref f8) = true)
    (a9 : PySem.W.nsIn K mainGlobals "ends_of" = some (some (.ref f9))) (l9 : K.lookup f9 = some ⟨oc9, od9, .func (PySem.W.fnOf "ends_of" "ends_of" (L2.defArgs s9) (L2.defBody s9) (L2.defScope s9) .none kV9 dc9 pm9 an9 cd9 ct9), sl9⟩) (d9 : PySem.W.codeIn K cd9 "ends_of" = true) (k9 : PySem.W.keepIn K (.ref f9) = true)
    (a10 : PySem.W.nsIn K mainGlobals "stretch" = some (some (.ref f10))) (l10 : K.lookup f10 = some ⟨oc10, od10, .func (PySem.W.fnOf "stretch" "stretch" (L2.defArgs s10) (L2.defBody s10) (L2.defScope s10) .none kV10 dc10 pm10 an10 cd10 ct10), sl10⟩) (d10 : PySem.W.codeIn K cd10 "stretch" = true) (k10 : PySem.W.keepIn K (.ref f10) = true)
    (a11 : PySem.W.nsIn K mainGlobals "ends_by_beats" = some (some (.ref f11))) (l11 : K.lookup f11 = some ⟨oc11, od11, .func (PySem.W.fnOf "ends_by_beats" "ends_by_beats" (L2.defArgs s11) (L2.defBody s11) (L2.defScope s11) .none kV11 dc11 pm11 an11 cd11 ct11), sl11⟩) (d11 : PySem.W.codeIn K cd11 "ends_by_beats" = true) (k11 : PySem.W.keepIn K (.ref f11) = true)
    (a12 : PySem.W.nsIn K mainGlobals "size_by" = some (some (.ref f12))) (l12 : K.lookup f12 = some ⟨oc12, od12, .func (PySem.W.fnOf "size_by" "size_by" (L2.defArgs s12) (L2.defBody s12) (L2.defScope s12) .none kV12 dc12 pm12 an12 cd12 ct12), sl12⟩) (d12 : PySem.W.codeIn K cd12 "size_by" = true) (k12 : PySem.W.keepIn K (.ref f12) = true)
    (a13 : PySem.W.nsIn K mainGlobals "bounds_of" = some (some (.ref f13))) (l13 : K.lookup f13 = some ⟨oc13, od13, .func (PySem.W.fnOf "bounds_of" "bounds_of" (L2.defArgs s13) (L2.defBody s13) (L2.defScope s13) .none kV13 dc13 pm13 an13 cd13 ct13), sl13⟩) (d13 : PySem.W.codeIn K cd13 "bounds_of" = true) (k13 : PySem.W.keepIn K (.ref f13) = true)
    (a14 : PySem.W.nsIn K mainGlobals "is_above" = some (some (.ref f14))) (l14 : K.lookup f14 = some ⟨oc14, od14, .func (PySem.W.fnOf "is_above" "is_above" (L2.defArgs s14) (L2.defBody s14) (L2.defScope s14) .none kV14 dc14 pm14 an14 cd14 ct14), sl14⟩) (d14 : PySem.W.codeIn K cd14 "is_above" = true) (k14 : PySem.W.keepIn K (.ref f14) = true)
    (a15 : PySem.W.nsIn K mainGlobals "is_under" = some (some (.ref f15))) (l15 : K.lookup f15 = some ⟨oc15, od15, .func (PySem.W.fnOf "is_under" "is_under" (L2.defArgs s15) (L2.defBody s15) (L2.defScope s15) .none kV15 dc15 pm15 an15 cd15 ct15), sl15⟩) (d15 : PySem.W.codeIn K cd15 "is_under" = true) (k15 : PySem.W.keepIn K (.ref f15) = true)
    (a16 : PySem.W.nsIn K mainGlobals "let" = some (some (.ref f16))) (l16 : K.lookup f16 = some ⟨oc16, od16, .func (PySem.W.fnOf "let" "let" (L2.defArgs s16) (L2.defBody s16) (L2.defScope s16) .none kV16 dc16 pm16 an16 cd16 ct16), sl16⟩) (d16 : PySem.W.codeIn K cd16 "let" = true) (k16 : PySem.W.keepIn K (.ref f16) = true)
    (a17 : PySem.W.nsIn K mainGlobals "_law_hand" = some (some (.ref f17))) (l17 : K.lookup f17 = some ⟨oc17, od17, .func (PySem.W.fnOf "_law_hand" "_law_hand" (L2.defArgs s17) (L2.defBody s17) (L2.defScope s17) .none kV17 dc17 pm17 an17 cd17 ct17), sl17⟩) (d17 : PySem.W.codeIn K cd17 "_law_hand" = true) (k17 : PySem.W.keepIn K (.ref f17) = true)
    (a18 : PySem.W.nsIn K mainGlobals "_law_take" = some (some (.ref f18))) (l18 : K.lookup f18 = some ⟨oc18, od18, .func (PySem.W.fnOf "_law_take" "_law_take" (L2.defArgs s18) (L2.defBody s18) (L2.defScope s18) .none kV18 dc18 pm18 an18 cd18 ct18), sl18⟩) (d18 : PySem.W.codeIn K cd18 "_law_take" = true) (k18 : PySem.W.keepIn K (.ref f18) = true)
    (a19 : PySem.W.nsIn K mainGlobals "_law_pick" = some (some (.ref f19))) (l19 : K.lookup f19 = some ⟨oc19, od19, .func (PySem.W.fnOf "_law_pick" "_law_pick" (L2.defArgs s19) (L2.defBody s19) (L2.defScope s19) .none kV19 dc19 pm19 an19 cd19 ct19), sl19⟩) (d19 : PySem.W.codeIn K cd19 "_law_pick" = true) (k19 : PySem.W.keepIn K (.ref f19) = true)
    (a20 : PySem.W.nsIn K mainGlobals "_law_gain_pair" = some (some (.ref f20))) (l20 : K.lookup f20 = some ⟨oc20, od20, .func (PySem.W.fnOf "_law_gain_pair" "_law_gain_pair" (L2.defArgs s20) (L2.defBody s20) (L2.defScope s20) .none kV20 dc20 pm20 an20 cd20 ct20), sl20⟩) (d20 : PySem.W.codeIn K cd20 "_law_gain_pair" = true) (k20 : PySem.W.keepIn K (.ref f20) = true)
    (a21 : PySem.W.nsIn K mainGlobals "_law_wishes" = some (some (.ref f21))) (l21 : K.lookup f21 = some ⟨oc21, od21, .func (PySem.W.fnOf "_law_wishes" "_law_wishes" (L2.defArgs s21) (L2.defBody s21) (L2.defScope s21) .none kV21 dc21 pm21 an21 cd21 ct21), sl21⟩) (d21 : PySem.W.codeIn K cd21 "_law_wishes" = true) (k21 : PySem.W.keepIn K (.ref f21) = true)
    (a22 : PySem.W.nsIn K mainGlobals "_law_setting" = some (some (.ref f22))) (l22 : K.lookup f22 = some ⟨oc22, od22, .func (PySem.W.fnOf "_law_setting" "_law_setting" (L2.defArgs s22) (L2.defBody s22) (L2.defScope s22) .none kV22 dc22 pm22 an22 cd22 ct22), sl22⟩) (d22 : PySem.W.codeIn K cd22 "_law_setting" = true) (k22 : PySem.W.keepIn K (.ref f22) = true)
    (a23 : PySem.W.nsIn K mainGlobals "_law_unit" = some (some (.ref f23))) (l23 : K.lookup f23 = some ⟨oc23, od23, .func (PySem.W.fnOf "_law_unit" "_law_unit" (L2.defArgs s23) (L2.defBody s23) (L2.defScope s23) .none kV23 dc23 pm23 an23 cd23 ct23), sl23⟩) (d23 : PySem.W.codeIn K cd23 "_law_unit" = true) (k23 : PySem.W.keepIn K (.ref f23) = true)
    (a24 : PySem.W.nsIn K mainGlobals "_law_wish" = some (some (.ref f24))) (l24 : K.lookup f24 = some ⟨oc24, od24, .func (PySem.W.fnOf "_law_wish" "_law_wish" (L2.defArgs s24) (L2.defBody s24) (L2.defScope s24) .none kV24 dc24 pm24 an24 cd24 ct24), sl24⟩) (d24 : PySem.W.codeIn K cd24 "_law_wish" = true) (k24 : PySem.W.keepIn K (.ref f24) = true)
    (a25 : PySem.W.nsIn K mainGlobals "_law_sizes" = some (some (.ref f25))) (l25 : K.lookup f25 = some ⟨oc25, od25, .func (PySem.W.fnOf "_law_sizes" "_law_sizes" (L2.defArgs s25) (L2.defBody s25) (L2.defScope s25) .none kV25 dc25 pm25 an25 cd25 ct25), sl25⟩) (d25 : PySem.W.codeIn K cd25 "_law_sizes" = true) (k25 : PySem.W.keepIn K (.ref f25) = true)
    (a26 : PySem.W.nsIn K mainGlobals "_law_noughts" = some (some (.ref f26))) (l26 : K.lookup f26 = some ⟨oc26, od26, .func (PySem.W.fnOf "_law_noughts" "_law_noughts" (L2.defArgs s26) (L2.defBody s26) (L2.defScope s26) .none kV26 dc26 pm26 an26 cd26 ct26), sl26⟩) (d26 : PySem.W.codeIn K cd26 "_law_noughts" = true) (k26 : PySem.W.keepIn K (.ref f26) = true)
    (a27 : PySem.W.nsIn K mainGlobals "_law_alone" = some (some (.ref f27))) (l27 : K.lookup f27 = some ⟨oc27, od27, .func (PySem.W.fnOf "_law_alone" "_law_alone" (L2.defArgs s27) (L2.defBody s27) (L2.defScope s27) .none kV27 dc27 pm27 an27 cd27 ct27), sl27⟩) (d27 : PySem.W.codeIn K cd27 "_law_alone" = true) (k27 : PySem.W.keepIn K (.ref f27) = true)
    (a28 : PySem.W.nsIn K mainGlobals "_law_shares" = some (some (.ref f28))) (l28 : K.lookup f28 = some ⟨oc28, od28, .func (PySem.W.fnOf "_law_shares" "_law_shares" (L2.defArgs s28) (L2.defBody s28) (L2.defScope s28) .none kV28 dc28 pm28 an28 cd28 ct28), sl28⟩) (d28 : PySem.W.codeIn K cd28 "_law_shares" = true) (k28 : PySem.W.keepIn K (.ref f28) = true)
    (a29 : PySem.W.nsIn K mainGlobals "_law_ends" = some (some (.ref f29))) (l29 : K.lookup f29 = some ⟨oc29, od29, .func (PySem.W.fnOf "_law_ends" "_law_ends" (L2.defArgs s29) (L2.defBody s29) (L2.defScope s29) .none kV29 dc29 pm29 an29 cd29 ct29), sl29⟩) (d29 : PySem.W.codeIn K cd29 "_law_ends" = true) (k29 : PySem.W.keepIn K (.ref f29) = true)
    (a30 : PySem.W.nsIn K mainGlobals "_law_checks" = some (some (.ref f30))) (l30 : K.lookup f30 = some ⟨oc30, od30, .func (PySem.W.fnOf "_law_checks" "_law_checks" (L2.defArgs s30) (L2.defBody s30) (L2.defScope s30) .none kV30 dc30 pm30 an30 cd30 ct30), sl30⟩) (d30 : PySem.W.codeIn K cd30 "_law_checks" = true) (k30 : PySem.W.keepIn K (.ref f30) = true)
    (a31 : PySem.W.nsIn K mainGlobals "_law_sides" = some (some (.ref f31))) (l31 : K.lookup f31 = some ⟨oc31, od31, .func (PySem.W.fnOf "_law_sides" "_law_sides" (L2.defArgs s31) (L2.defBody s31) (L2.defScope s31) .none kV31 dc31 pm31 an31 cd31 ct31), sl31⟩) (d31 : PySem.W.codeIn K cd31 "_law_sides" = true) (k31 : PySem.W.keepIn K (.ref f31) = true)
    (a32 : PySem.W.nsIn K mainGlobals "_law_let" = some (some (.ref f32))) (l32 : K.lookup f32 = some ⟨oc32, od32, .func (PySem.W.fnOf "_law_let" "_law_let" (L2.defArgs s32) (L2.defBody s32) (L2.defScope s32) .none kV32 dc32 pm32 an32 cd32 ct32), sl32⟩) (d32 : PySem.W.codeIn K cd32 "_law_let" = true) (k32 : PySem.W.keepIn K (.ref f32) = true)
    (a33 : PySem.W.nsIn K mainGlobals "_law_limits" = some (some (.ref f33))) (l33 : K.lookup f33 = some ⟨oc33, od33, .func (PySem.W.fnOf "_law_limits" "_law_limits" (L2.defArgs s33) (L2.defBody s33) (L2.defScope s33) .none kV33 dc33 pm33 an33 cd33 ct33), sl33⟩) (d33 : PySem.W.codeIn K cd33 "_law_limits" = true) (k33 : PySem.W.keepIn K (.ref f33) = true)
    (a34 : PySem.W.nsIn K mainGlobals "_law_roomy" = some (some (.ref f34))) (l34 : K.lookup f34 = some ⟨oc34, od34, .func (PySem.W.fnOf "_law_roomy" "_law_roomy" (L2.defArgs s34) (L2.defBody s34) (L2.defScope s34) .none kV34 dc34 pm34 an34 cd34 ct34), sl34⟩) (d34 : PySem.W.codeIn K cd34 "_law_roomy" = true) (k34 : PySem.W.keepIn K (.ref f34) = true)
    (a35 : PySem.W.nsIn K mainGlobals "law" = some (some (.ref f35))) (l35 : K.lookup f35 = some ⟨oc35, od35, .func (PySem.W.fnOf "law" "law" (L2.defArgs s35) (L2.defBody s35) (L2.defScope s35) .none kV35 dc35 pm35 an35 cd35 ct35), sl35⟩) (d35 : PySem.W.codeIn K cd35 "law" = true) (k35 : PySem.W.keepIn K (.ref f35) = true)
    (z_abs : PySem.W.nsIn K mainGlobals "abs" = some none) (z_enumerate : PySem.W.nsIn K mainGlobals "enumerate" = some none) (z_int : PySem.W.nsIn K mainGlobals "int" = some none) (z_len : PySem.W.nsIn K mainGlobals "len" = some none) (z_max : PySem.W.nsIn K mainGlobals "max" = some none) (z_min : PySem.W.nsIn K mainGlobals "min" = some none) (z_range : PySem.W.nsIn K mainGlobals "range" = some none) (z_repr : PySem.W.nsIn K mainGlobals "repr" = some none) (z_str : PySem.W.nsIn K mainGlobals "str" = some none) (z_tuple : PySem.W.nsIn K mainGlobals "tuple" = some none)
    {gt0 gt2 gt3 gt4 gt5 gt6 gt7 gt8 gt9 gt10 gt11 gm1 gt13 gt14 gt15 gt16 gt17 gt18 gt19 gt20 gt21 gt22 gt23 gt24 gm12 : Nat}
    {ga1 ga12 : Addr}
    {gs1 gs12 : Array (Option Value)}
    (g_KINDS : PySem.W.nsIn K mainGlobals "KINDS" = some (some (Value.int (4) gt0)))
    (gk1 : K.lookup ga1 = some ⟨.type "tuple", none, .seq #[(Value.str "place" gt2), (Value.str "pace" gt3), (Value.str "push" gt4), (Value.str "n0" gt5), (Value.str "n1" gt6), (Value.str "n2" gt7), (Value.str "n3" gt8), (Value.str "n4" gt9), (Value.str "n5" gt10), (Value.str "n6" gt11)] gm1, gs1⟩)
    (g_SIZES : PySem.W.nsIn K mainGlobals "SIZES" = some (some (Value.ref ga1)))
    (gk12 : K.lookup ga12 = some ⟨.type "tuple", none, .seq #[(Value.str "slack" gt13), (Value.str "high" gt14), (Value.str "low" gt15), (Value.str "pace" gt16), (Value.str "push" gt17), (Value.str "n0" gt18), (Value.str "n1" gt19), (Value.str "n2" gt20), (Value.str "n3" gt21), (Value.str "n4" gt22), (Value.str "n5" gt23), (Value.str "n6" gt24)] gm12, gs12⟩)
    (g_WORDS : PySem.W.nsIn K mainGlobals "WORDS" = some (some (Value.ref ga12)))
    : ∃ fd : FuncData, (∀ (s : Shared) (v : Value), BindsTo s fd ⟨[v], []⟩ [("_law_script", v)]) ∧ ∀ base : Heap, K.In base → base.Ns mainGlobals mg → FnG l.prog w K mg base 36 fa fd ["_law_script"] (spOf K spLaw) := by
  have e := hfa.symm.trans (PySem.W.mg_of X Gn a35)
  cases e
  have F0 := L2.fun_mk (st := s0) l0 d0 k0
  have F1 := L2.fun_mk (st := s1) l1 d1 k1
  have F2 := L2.fun_mk (st := s2) l2 d2 k2
  have F3 := L2.fun_mk (st := s3) l3 d3 k3
  have F4 := L2.fun_mk (st := s4) l4 d4 k4
  have F5 := L2.fun_mk (st := s5) l5 d5 k5
  have F6 := L2.fun_mk (st := s6) l6 d6 k6
  have F7 := L2.fun_mk (st := s7) l7 d7 k7
  have F8 := L2.fun_mk (st := s8) l8 d8 k8
  have F9 := L2.fun_mk (st := s9) l9 d9 k9
  have F10 := L2.fun_mk (st := s10) l10 d10 k10
  have F11 := L2.fun_mk (st := s11) l11 d11 k11
  have F12 := L2.fun_mk (st := s12) l12 d12 k12
  have F13 := L2.fun_mk (st := s13) l13 d13 k13
  have F14 := L2.fun_mk (st := s14) l14 d14 k14
  have F15 := L2.fun_mk (st := s15) l15 d15 k15
  have F16 := L2.fun_mk (st := s16) l16 d16 k16
  have F17 := L2.fun_mk (st := s17) l17 d17 k17
  have F18 := L2.fun_mk (st := s18) l18 d18 k18
  have F19 := L2.fun_mk (st := s19) l19 d19 k19
  have F20 := L2.fun_mk (st := s20) l20 d20 k20
  have F21 := L2.fun_mk (st := s21) l21 d21 k21
  have F22 := L2.fun_mk (st := s22) l22 d22 k22
  have F23 := L2.fun_mk (st := s23) l23 d23 k23
  have F24 := L2.fun_mk (st := s24) l24 d24 k24
  have F25 := L2.fun_mk (st := s25) l25 d25 k25
  have F26 := L2.fun_mk (st := s26) l26 d26 k26
  have F27 := L2.fun_mk (st := s27) l27 d27 k27
  have F28 := L2.fun_mk (st := s28) l28 d28 k28
  have F29 := L2.fun_mk (st := s29) l29 d29 k29
  have F30 := L2.fun_mk (st := s30) l30 d30 k30
  have F31 := L2.fun_mk (st := s31) l31 d31 k31
  have F32 := L2.fun_mk (st := s32) l32 d32 k32
  have F33 := L2.fun_mk (st := s33) l33 d33 k33
  have F34 := L2.fun_mk (st := s34) l34 d34 k34
  have F35 := L2.fun_mk (st := s35) l35 d35 k35
  refine ⟨PySem.W.fnOf "law" "law" (L2.defArgs s35) (L2.defBody s35) (L2.defScope s35) .none kV35 dc35 pm35 an35 cd35 ct35, fun s v => .of_eq rfl, fun base _ _ => ?_⟩
  have t0 : Tab l.prog w K mg base 0 T0 G := Tab.none (fun j x h => by
    match j, h with
    | 0, h => cases h; exact ⟨_, V.int (4), PySem.W.mg_of X Gn g_KINDS, ⟨_, rfl⟩, (fun H η μ => show RV K H η μ (G.gl 0) (V.int (4)) from (.int _)), fun a e => nomatch e⟩
    | 1, h => cases h; exact ⟨_, V.ref ga1, PySem.W.mg_of X Gn g_SIZES, rfl, (fun H η μ => show RV K H η μ (G.gl 1) (V.ref ga1) from (.tup (xs := [V.str "place", V.str "pace", V.str "push", V.str "n0", V.str "n1", V.str "n2", V.str "n3", V.str "n4", V.str "n5", V.str "n6"]) (.inr ⟨_, _, _, gk1, rfl, rfl, by show 10 ≤ sizeLine; decide, (.cons ⟨_, rfl⟩ (.cons ⟨_, rfl⟩ (.cons ⟨_, rfl⟩ (.cons ⟨_, rfl⟩ (.cons ⟨_, rfl⟩ (.cons ⟨_, rfl⟩ (.cons ⟨_, rfl⟩ (.cons ⟨_, rfl⟩ (.cons ⟨_, rfl⟩ (.cons ⟨_, rfl⟩ .nil))))))))))⟩) (.cons (.str _) (.cons (.str _) (.cons (.str _) (.cons (.str _) (.cons (.str _) (.cons (.str _) (.cons (.str _) (.cons (.str _) (.cons (.str _) (.cons (.str _) .nil)))))))))))), fun a e => by cases e; exact ⟨_, gk1, rfl, rfl⟩⟩
    | 2, h => cases h; exact ⟨_, V.ref ga12, PySem.W.mg_of X Gn g_WORDS, rfl, (fun H η μ => show RV K H η μ (G.gl 2) (V.ref ga12) from (.tup (xs := [V.str "slack", V.str "high", V.str "low", V.str "pace", V.str "push", V.str "n0", V.str "n1", V.str "n2", V.str "n3", V.str "n4", V.str "n5", V.str "n6"]) (.inr ⟨_, _, _, gk12, rfl, rfl, by show 12 ≤ sizeLine; decide, (.cons ⟨_, rfl⟩ (.cons ⟨_, rfl⟩ (.cons ⟨_, rfl⟩ (.cons ⟨_, rfl⟩ (.cons ⟨_, rfl⟩ (.cons ⟨_, rfl⟩ (.cons ⟨_, rfl⟩ (.cons ⟨_, rfl⟩ (.cons ⟨_, rfl⟩ (.cons ⟨_, rfl⟩ (.cons ⟨_, rfl⟩ (.cons ⟨_, rfl⟩ .nil))))))))))))⟩) (.cons (.str _) (.cons (.str _) (.cons (.str _) (.cons (.str _) (.cons (.str _) (.cons (.str _) (.cons (.str _) (.cons (.str _) (.cons (.str _) (.cons (.str _) (.cons (.str _) (.cons (.str _) .nil)))))))))))))), fun a e => by cases e; exact ⟨_, gk12, rfl, rfl⟩⟩
    | j + 3, h => simp [gls] at h) (fun x hx => by
    simp only [bis, List.mem_cons, List.mem_nil_iff, or_false] at hx
    rcases hx with rfl | rfl | rfl | rfl | rfl | rfl | rfl | rfl | rfl | rfl
    · exact PySem.W.mg_none_of X Gn z_abs
    · exact PySem.W.mg_none_of X Gn z_enumerate
    · exact PySem.W.mg_none_of X Gn z_int
    · exact PySem.W.mg_none_of X Gn z_len
    · exact PySem.W.mg_none_of X Gn z_max
    · exact PySem.W.mg_none_of X Gn z_min
    · exact PySem.W.mg_none_of X Gn z_range
    · exact PySem.W.mg_none_of X Gn z_repr
    · exact PySem.W.mg_none_of X Gn z_str
    · exact PySem.W.mg_none_of X Gn z_tuple)
  have g0 := fn_sound F0 sc0 t0 ok0 len0 body0
  have t1 : Tab l.prog w K mg base 1 T1 G := t0.add (i := i0) g0 (PySem.W.mg_of X Gn a0) k0 (fun _ => kb_pos fun us hl => match us, hl with | [_, _], _ => rfl) (fun p hp => by cases hp)
  have g1 := fn_sound F1 sc1 t1 ok1 len1 body1
  have t2 : Tab l.prog w K mg base 2 T2 G := t1.add (i := i1) g1 (PySem.W.mg_of X Gn a1) k1 (fun _ => kb_pos fun us hl => match us, hl with | [_, _], _ => rfl) (fun p hp => by cases hp)
  have g2 := fn_sound F2 sc2 t2 ok2 len2 body2
  have t3 : Tab l.prog w K mg base 3 T3 G := t2.add (i := i2) g2 (PySem.W.mg_of X Gn a2) k2 (fun _ => kb_pos fun us hl => match us, hl with | [_, _], _ => rfl) (fun p hp => by cases hp)
  have g3 := fn_sound F3 sc3 t3 ok3 len3 body3
  have t4 : Tab l.prog w K mg base 4 T4 G := t3.add (i := i3) g3 (PySem.W.mg_of X Gn a3) k3 (fun _ => kb_pos fun us hl => match us, hl with | [_, _], _ => rfl) (fun p hp => by cases hp)
  have g4 := fn_sound F4 sc4 t4 ok4 len4 body4
  have t5 : Tab l.prog w K mg base 5 T5 G := t4.add (i := i4) g4 (PySem.W.mg_of X Gn a4) k4 (fun _ => kb_pos fun us hl => match us, hl with | [_, _], _ => rfl) (fun p hp => by cases hp)
  have g5 := fn_sound F5 sc5 t5 ok5 len5 body5
  have t6 : Tab l.prog w K mg base 6 T6 G := t5.add (i := i5) g5 (PySem.W.mg_of X Gn a5) k5 (fun _ => kb_pos fun us hl => match us, hl with | [_, _, _], _ => rfl) (fun p hp => by cases hp)
  have g6 := fn_sound F6 sc6 t6 ok6 len6 body6
  have t7 : Tab l.prog w K mg base 7 T7 G := t6.add (i := i6) g6 (PySem.W.mg_of X Gn a6) k6 (fun _ => kb_pos fun us hl => match us, hl with | [_, _], _ => rfl) (fun p hp => by cases hp)
  have g7 := fn_sound F7 sc7 t7 ok7 len7 body7
  have t8 : Tab l.prog w K mg base 8 T8 G := t7.add (i := i7) g7 (PySem.W.mg_of X Gn a7) k7 (fun _ => kb_pos fun us hl => match us, hl with | [_, _, _], _ => rfl) (fun p hp => by cases hp)
  have g8 := fn_sound F8 sc8 t8 ok8 len8 body8
  have t9 : Tab l.prog w K mg base 9 T9 G := t8.add (i := i8) g8 (PySem.W.mg_of X Gn a8) k8 (fun _ => kb_pos fun us hl => match us, hl with | [_, _], _ => rfl) (fun p hp => by cases hp)
  have g9 := fn_sound F9 sc9 t9 ok9 len9 body9
  have t10 : Tab l.prog w K mg base 10 T10 G := t9.add (i := i9) g9 (PySem.W.mg_of X Gn a9) k9 (fun _ => kb_pos fun us hl => match us, hl with | [_, _], _ => rfl) (fun p hp => by cases hp)
  have g10 := fn_sound F10 sc10 t10 ok10 len10 body10
  have t11 : Tab l.prog w K mg base 11 T11 G := t10.add (i := i10) g10 (PySem.W.mg_of X Gn a10) k10 (fun _ => kb_pos fun us hl => match us, hl with | [_, _, _, _], _ => rfl) (fun p hp => by cases hp)
  have g11 := fn_sound F11 sc11 t11 ok11 len11 body11
  have t12 : Tab l.prog w K mg base 12 T12 G := t11.add (i := i11) g11 (PySem.W.mg_of X Gn a11) k11 (fun _ => kb_pos fun us hl => match us, hl with | [_, _, _, _], _ => rfl) (fun p hp => by cases hp)
  have g12 := fn_sound F12 sc12 t12 ok12 len12 body12
  have t13 : Tab l.prog w K mg base 13 T13 G := t12.add (i := i12) g12 (PySem.W.mg_of X Gn a12) k12 (fun _ => kb_pos fun us hl => match us, hl with | [_], _ => rfl) (fun p hp => by cases hp)
  have g13 := fn_sound F13 sc13 t13 ok13 len13 body13
  have t14 : Tab l.prog w K mg base 14 T14 G := t13.add (i := i13) g13 (PySem.W.mg_of X Gn a13) k13 (fun _ => kb_pos fun us hl => match us, hl with | [_, _, _, _, _], _ => rfl) (fun p hp => by cases hp)
  have g14 := fn_sound F14 sc14 t14 ok14 len14 body14
  have t15 : Tab l.prog w K mg base 15 T15 G := t14.add (i := i14) g14 (PySem.W.mg_of X Gn a14) k14 (fun _ => kb_pos fun us hl => match us, hl with | [_, _], _ => rfl) (fun p hp => by cases hp)
  have g15 := fn_sound F15 sc15 t15 ok15 len15 body15
  have t16 : Tab l.prog w K mg base 16 T16 G := t15.add (i := i15) g15 (PySem.W.mg_of X Gn a15) k15 (fun _ => kb_pos fun us hl => match us, hl with | [_, _], _ => rfl) (fun p hp => by cases hp)
  have g16 := fn_sound F16 sc16 t16 ok16 len16 body16
  have t17 : Tab l.prog w K mg base 17 T17 G := t16.add (i := i16) g16 (PySem.W.mg_of X Gn a16) k16 (fun _ => kb_pos fun us hl => match us, hl with | [_, _, _, _], _ => rfl) (fun p hp => by
    simp only [i16, List.mem_cons, List.mem_nil_iff, or_false] at hp
    rcases hp with rfl
    · exact kb16_0)
  have g17 := fn_sound F17 sc17 t17 ok17 len17 body17
  have t18 : Tab l.prog w K mg base 18 T18 G := t17.add (i := i17) g17 (PySem.W.mg_of X Gn a17) k17 (fun _ => kb_pos fun us hl => match us, hl with | [_, _], _ => rfl) (fun p hp => by cases hp)
  have g18 := fn_sound F18 sc18 t18 ok18 len18 body18
  have t19 : Tab l.prog w K mg base 19 T19 G := t18.add (i := i18) g18 (PySem.W.mg_of X Gn a18) k18 (fun _ => kb_pos fun us hl => match us, hl with | [_, _], _ => rfl) (fun p hp => by cases hp)
  have g19 := fn_sound F19 sc19 t19 ok19 len19 body19
  have t20 : Tab l.prog w K mg base 20 T20 G := t19.add (i := i19) g19 (PySem.W.mg_of X Gn a19) k19 (fun _ => kb_pos fun us hl => match us, hl with | [_, _], _ => rfl) (fun p hp => by cases hp)
  have g20 := fn_sound F20 sc20 t20 ok20 len20 body20
  have t21 : Tab l.prog w K mg base 21 T21 G := t20.add (i := i20) g20 (PySem.W.mg_of X Gn a20) k20 (fun _ => kb_pos fun us hl => match us, hl with | [_], _ => rfl) (fun p hp => by cases hp)
  have g21 := fn_sound F21 sc21 t21 ok21 len21 body21
  have t22 : Tab l.prog w K mg base 22 T22 G := t21.add (i := i21) g21 (PySem.W.mg_of X Gn a21) k21 (fun _ => kb_pos fun us hl => match us, hl with | [_, _], _ => rfl) (fun p hp => by cases hp)
  have g22 := fn_sound F22 sc22 t22 ok22 len22 body22
  have t23 : Tab l.prog w K mg base 23 T23 G := t22.add (i := i22) g22 (PySem.W.mg_of X Gn a22) k22 (fun _ => kb_pos fun us hl => match us, hl with | [_, _], _ => rfl) (fun p hp => by cases hp)
  have g23 := fn_sound F23 sc23 t23 ok23 len23 body23
  have t24 : Tab l.prog w K mg base 24 T24 G := t23.add (i := i23) g23 (PySem.W.mg_of X Gn a23) k23 (fun _ => kb_pos fun us hl => match us, hl with | [_, _], _ => rfl) (fun p hp => by cases hp)
  have g24 := fn_sound F24 sc24 t24 ok24 len24 body24
  have t25 : Tab l.prog w K mg base 25 T25 G := t24.add (i := i24) g24 (PySem.W.mg_of X Gn a24) k24 (fun _ => kb_pos fun us hl => match us, hl with | [_, _], _ => rfl) (fun p hp => by cases hp)
  have g25 := fn_sound F25 sc25 t25 ok25 len25 body25
  have t26 : Tab l.prog w K mg base 26 T26 G := t25.add (i := i25) g25 (PySem.W.mg_of X Gn a25) k25 (fun _ => kb_pos fun us hl => match us, hl with | [_, _, _], _ => rfl) (fun p hp => by cases hp)
  have g26 := fn_sound F26 sc26 t26 ok26 len26 body26
  have t27 : Tab l.prog w K mg base 27 T27 G := t26.add (i := i26) g26 (PySem.W.mg_of X Gn a26) k26 (fun _ => kb_pos fun us hl => match us, hl with | [_], _ => rfl) (fun p hp => by cases hp)
  have g27 := fn_sound F27 sc27 t27 ok27 len27 body27
  have t28 : Tab l.prog w K mg base 28 T28 G := t27.add (i := i27) g27 (PySem.W.mg_of X Gn a27) k27 (fun _ => kb_pos fun us hl => match us, hl with | [_, _, _], _ => rfl) (fun p hp => by cases hp)
  have g28 := fn_sound F28 sc28 t28 ok28 len28 body28
  have t29 : Tab l.prog w K mg base 29 T29 G := t28.add (i := i28) g28 (PySem.W.mg_of X Gn a28) k28 (fun _ => kb_pos fun us hl => match us, hl with | [_, _], _ => rfl) (fun p hp => by cases hp)
  have g29 := fn_sound F29 sc29 t29 ok29 len29 body29
  have t30 : Tab l.prog w K mg base 30 T30 G := t29.add (i := i29) g29 (PySem.W.mg_of X Gn a29) k29 (fun _ => kb_pos fun us hl => match us, hl with | [_, _, _], _ => rfl) (fun p hp => by cases hp)
  have g30 := fn_sound F30 sc30 t30 ok30 len30 body30
  have t31 : Tab l.prog w K mg base 31 T31 G := t30.add (i := i30) g30 (PySem.W.mg_of X Gn a30) k30 (fun _ => kb_pos fun us hl => match us, hl with | [_, _, _, _], _ => rfl) (fun p hp => by cases hp)
  have g31 := fn_sound F31 sc31 t31 ok31 len31 body31
  have t32 : Tab l.prog w K mg base 32 T32 G := t31.add (i := i31) g31 (PySem.W.mg_of X Gn a31) k31 (fun _ => kb_pos fun us hl => match us, hl with | [_, _, _, _], _ => rfl) (fun p hp => by cases hp)
  have g32 := fn_sound F32 sc32 t32 ok32 len32 body32
  have t33 : Tab l.prog w K mg base 33 T33 G := t32.add (i := i32) g32 (PySem.W.mg_of X Gn a32) k32 (fun _ => kb_pos fun us hl => match us, hl with | [_, _, _, _, _], _ => rfl) (fun p hp => by cases hp)
  have g33 := fn_sound F33 sc33 t33 ok33 len33 body33
  have t34 : Tab l.prog w K mg base 34 T34 G := t33.add (i := i33) g33 (PySem.W.mg_of X Gn a33) k33 (fun _ => kb_pos fun us hl => match us, hl with | [_, _, _, _, _], _ => rfl) (fun p hp => by cases hp)
  have g34 := fn_sound F34 sc34 t34 ok34 len34 body34
  have t35 : Tab l.prog w K mg base 35 T35 G := t34.add (i := i34) g34 (PySem.W.mg_of X Gn a34) k34 (fun _ => kb_pos fun us hl => match us, hl with | [_, _, _], _ => rfl) (fun p hp => by cases hp)
  have g35 := fn_sound F35 sc35 t35 ok35 len35 body35
  exact g35
end Law_k42
open PySem PySem.W PyProof.Rows
set_option maxHeartbeats 0 in
theorem PySem.Challenge.cw_drivenwheels_k42_let_or_refused_holds : PySem.Challenge.rw_drivenwheels_k42_let_or_refused.Holds := by
  w_on; o_law; k_head; (case hw => w_witness2)
  k_fill
  refine DL.walk_law (l := PySem.Challenge.rw_drivenwheels_k42_let_or_refused) (k := 36) (x := "_law_script") rfl rfl ⟨rfl, by decide, by decide⟩ (fun w h Y => PySem.W.kIn_of Y) ?F
  case F =>
    intro w mg fa h KX Gn hmg
    refine' Law_k42.all_mk KX Gn hmg ?a0 ?l0 ?d0 ?k0 ?a1 ?l1 ?d1 ?k1 ?a2 ?l2 ?d2 ?k2 ?a3 ?l3 ?d3 ?k3 ?a4 ?l4 ?d4 ?k4 ?a5 ?l5 ?d5 ?k5 ?a6 ?l6 ?d6 ?k6 ?a7 ?l7 ?d7 ?k7 ?a8 ?l8 ?d8 ?k8 ?a9 ?l9 ?d9 ?k9 ?a10 ?l10 ?d10 ?k10 ?a11 ?l11 ?d11 ?k11 ?a12 ?l12 ?d12 ?k12 ?a13 ?l13 ?d13 ?k13 ?a14 ?l14 ?d14 ?k14 ?a15 ?l15 ?d15 ?k15 ?a16 ?l16 ?d16 ?k16 ?a17 ?l17 ?d17 ?k17 ?a18 ?l18 ?d18 ?k18 ?a19 ?l19 ?d19 ?k19 ?a20 ?l20 ?d20 ?k20 ?a21 ?l21 ?d21 ?k21 ?a22 ?l22 ?d22 ?k22 ?a23 ?l23 ?d23 ?k23 ?a24 ?l24 ?d24 ?k24 ?a25 ?l25 ?d25 ?k25 ?a26 ?l26 ?d26 ?k26 ?a27 ?l27 ?d27 ?k27 ?a28 ?l28 ?d28 ?k28 ?a29 ?l29 ?d29 ?k29 ?a30 ?l30 ?d30 ?k30 ?a31 ?l31 ?d31 ?k31 ?a32 ?l32 ?d32 ?k32 ?a33 ?l33 ?d33 ?k33 ?a34 ?l34 ?d34 ?k34 ?a35 ?l35 ?d35 ?k35 ?z_abs ?z_enumerate ?z_int ?z_len ?z_max ?z_min ?z_range ?z_repr ?z_str ?z_tuple ?g_KINDS ?gk1 ?g_SIZES ?gk12 ?g_WORDS
    (case a0 => k_is); (case l0 => k_is); (case d0 => k_is); (case k0 => k_is); (case a1 => k_is); (case l1 => k_is); (case d1 => k_is); (case k1 => k_is); (case a2 => k_is); (case l2 => k_is); (case d2 => k_is); (case k2 => k_is); (case a3 => k_is); (case l3 => k_is); (case d3 => k_is); (case k3 => k_is); (case a4 => k_is); (case l4 => k_is); (case d4 => k_is); (case k4 => k_is); (case a5 => k_is); (case l5 => k_is); (case d5 => k_is); (case k5 => k_is); (case a6 => k_is); (case l6 => k_is); (case d6 => k_is); (case k6 => k_is); (case a7 => k_is); (case l7 => k_is); (case d7 => k_is); (case k7 => k_is); (case a8 => k_is); (case l8 => k_is); (case d8 => k_is); (case k8 => k_is); (case a9 => k_is); (case l9 => k_is); (case d9 => k_is); (case k9 => k_is); (case a10 => k_is); (case l10 => k_is); (case d10 => k_is); (case k10 => k_is); (case a11 => k_is); (case l11 => k_is); (case d11 => k_is); (case k11 => k_is); (case a12 => k_is); (case l12 => k_is); (case d12 => k_is); (case k12 => k_is); (case a13 => k_is); (case l13 => k_is); (case d13 => k_is); (case k13 => k_is); (case a14 => k_is); (case l14 => k_is); (case d14 => k_is); (case k14 => k_is); (case a15 => k_is); (case l15 => k_is); (case d15 => k_is); (case k15 => k_is); (case a16 => k_is); (case l16 => k_is); (case d16 => k_is); (case k16 => k_is); (case a17 => k_is); (case l17 => k_is); (case d17 => k_is); (case k17 => k_is); (case a18 => k_is); (case l18 => k_is); (case d18 => k_is); (case k18 => k_is); (case a19 => k_is); (case l19 => k_is); (case d19 => k_is); (case k19 => k_is); (case a20 => k_is); (case l20 => k_is); (case d20 => k_is); (case k20 => k_is); (case a21 => k_is); (case l21 => k_is); (case d21 => k_is); (case k21 => k_is); (case a22 => k_is); (case l22 => k_is); (case d22 => k_is); (case k22 => k_is); (case a23 => k_is); (case l23 => k_is); (case d23 => k_is); (case k23 => k_is); (case a24 => k_is); (case l24 => k_is); (case d24 => k_is); (case k24 => k_is); (case a25 => k_is); (case l25 => k_is); (case d25 => k_is); (case k25 => k_is); (case a26 => k_is); (case l26 => k_is); (case d26 => k_is); (case k26 => k_is); (case a27 => k_is); (case l27 => k_is); (case d27 => k_is); (case k27 => k_is); (case a28 => k_is); (case l28 => k_is); (case d28 => k_is); (case k28 => k_is); (case a29 => k_is); (case l29 => k_is); (case d29 => k_is); (case k29 => k_is); (case a30 => k_is); (case l30 => k_is); (case d30 => k_is); (case k30 => k_is); (case a31 => k_is); (case l31 => k_is); (case d31 => k_is); (case k31 => k_is); (case a32 => k_is); (case l32 => k_is); (case d32 => k_is); (case k32 => k_is); (case a33 => k_is); (case l33 => k_is); (case d33 => k_is); (case k33 => k_is); (case a34 => k_is); (case l34 => k_is); (case d34 => k_is); (case k34 => k_is); (case a35 => k_is); (case l35 => k_is); (case d35 => k_is); (case k35 => k_is); (case z_abs => k_is); (case z_enumerate => k_is); (case z_int => k_is); (case z_len => k_is); (case z_max => k_is); (case z_min => k_is); (case z_range => k_is); (case z_repr => k_is); (case z_str => k_is); (case z_tuple => k_is); (case g_WORDS => k_is); (case gk12 => k_is); (case g_SIZES => k_is); (case gk1 => k_is); (case g_KINDS => k_is)

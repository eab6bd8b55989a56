import PyProof.Rows.All
import Wide.All
import OpenK.AllK
import Wide.FinOn
import HandS.ForMost
import HandS.Wide
import HandS.Style
import HandS.IsInst
import HandS.Zip
import HandS.Rev
import HandS.RevRange
import HandS.Sort
import HandS.SortInts
import HandS.SortKw
import HandS.Conv
import HandS.Flow
import HandS.TupAny
import HandS.New
import HandS.RaiseMore
import PySem.Challenge.RW_drivenwheels_k36_pushes_and_wishes
set_option Elab.async false
set_option linter.all false
set_option maxRecDepth 100000
namespace DL
open PySem PySem.Spec PyProof.Rows L2

/-- data: tuples and lists that stay as they are, by what is in them; lists that change, by their number in the store -/
inductive D where
  | non | bl (b : Bool) | int (i : Int) | str (x : Str) | tup (xs : List D) | lst (xs : List D) | ref (n : Nat)
  /-- the script -/
  | scr (xs : List D)

inductive Cell where
  | lst (xs : List D)
abbrev DStore := List Cell
abbrev DEnv := List (Option D)
abbrev QE := D → DStore → Prop
abbrev St := L2.St

section
variable (K : PySem.W.Frag) (H : Hp) (η μ : List Addr)
mutual
inductive RV : D → V → Prop
  | non : RV .non .non
  | bl (b : Bool) : RV (.bl b) (.bl b)
  | int (i : Int) : RV (.int i) (.int i)
  | str (x : Str) : RV (.str x) (.str x)
  | tup {a : Addr} {xs : List V} {ds : List D} : SqT K H a xs → RVs ds xs → RV (.tup ds) (.ref a)
  | lst {a : Addr} {xs : List V} {ds : List D} : a ∉ μ → a ∉ η → H a = some (.lst xs) → RVs ds xs → RV (.lst ds) (.ref a)
  | scr {a : Addr} {xs : List V} {ds : List D} : ((∃ o, H a = some (.frz o (.lst xs))) ∨ ∀ H', SqL K H' a xs) → RVs ds xs → RV (.scr ds) (.ref a)
  | ref {n : Nat} {a : Addr} : μ[n]? = some a → RV (.ref n) (.ref a)
inductive RVs : List D → List V → Prop
  | nil : RVs [] []
  | cons {d : D} {v : V} {ds : List D} {vs : List V} : RV d v → RVs ds vs → RVs (d :: ds) (v :: vs)
end
end

/-- values stay what they are -/
structure Ext (η μ : List Addr) (H : Hp) (η' μ' : List Addr) (H' : Hp) : Prop where
  pre : ∃ more, μ' = μ ++ more
  keep : ∀ a o, H a = some o → a ∉ μ → a ∉ η → H' a = some o ∧ a ∉ μ' ∧ a ∉ η'
  tup : ∀ a xs, H a = some (.tup xs) → H' a = some (.tup xs)
  frz : ∀ a o u, H a = some (.frz o u) → H' a = some (.frz o u)
/-- what evaluation does: hidden things stay -/
structure Grow (μ : List Addr) (H : Hp) (μ' : List Addr) (H' : Hp) : Prop where
  pre : ∃ more, μ' = μ ++ more
  keep : ∀ a o, H a = some o → a ∉ μ → H' a = some o ∧ a ∉ μ'
  tup : ∀ a xs, H a = some (.tup xs) → H' a = some (.tup xs)
  frz : ∀ a o u, H a = some (.frz o u) → H' a = some (.frz o u)

section
variable {K : PySem.W.Frag} {H H' H1 H2 : Hp} {η η' η1 η2 μ μ' μ1 μ2 : List Addr}
theorem Grow.refl : Grow μ H μ H := ⟨⟨[], by simp⟩, fun a o h n => ⟨h, n⟩, fun _ _ h => h, fun _ _ _ h => h⟩
theorem Grow.trans (a : Grow μ H μ1 H1) (b : Grow μ1 H1 μ2 H2) : Grow μ H μ2 H2 :=
  ⟨by obtain ⟨m, rfl⟩ := a.pre; obtain ⟨n, rfl⟩ := b.pre; exact ⟨m ++ n, by simp⟩,
   fun c o h n => b.keep c o (a.keep c o h n).1 (a.keep c o h n).2, fun c xs h => b.tup c xs (a.tup c xs h), fun c o u h => b.frz c o u (a.frz c o u h)⟩
theorem Ext.refl : Ext η μ H η μ H := ⟨⟨[], by simp⟩, fun a o h n m => ⟨h, n, m⟩, fun _ _ h => h, fun _ _ _ h => h⟩
theorem Ext.trans (a : Ext η μ H η1 μ1 H1) (b : Ext η1 μ1 H1 η2 μ2 H2) : Ext η μ H η2 μ2 H2 :=
  ⟨by obtain ⟨m, rfl⟩ := a.pre; obtain ⟨n, rfl⟩ := b.pre; exact ⟨m ++ n, by simp⟩,
   fun c o h n m => b.keep c o (a.keep c o h n m).1 (a.keep c o h n m).2.1 (a.keep c o h n m).2.2, fun c xs h => b.tup c xs (a.tup c xs h), fun c o u h => b.frz c o u (a.frz c o u h)⟩
theorem Grow.ext (g : Grow μ H μ' H') : Ext η μ H η μ' H' :=
  ⟨g.pre, fun a o h n m => ⟨(g.keep a o h n).1, (g.keep a o h n).2, m⟩, g.tup, g.frz⟩

theorem SqT.ext (e : Ext η μ H η' μ' H') {a : Addr} {xs : List V} (h : SqT K H a xs) : SqT K H' a xs := by
  rcases h with (h | ⟨o, h⟩) | h
  · exact .inl (.inl (e.tup _ _ h))
  · exact .inl (.inr ⟨o, e.frz _ _ _ h⟩)
  · exact .inr h
mutual
theorem RV.ext (e : Ext η μ H η' μ' H') : ∀ {d : D} {v : V}, RV K H η μ d v → RV K H' η' μ' d v
  | _, _, .non => .non
  | _, _, .bl b => .bl b
  | _, _, .int i => .int i
  | _, _, .str x => .str x
  | _, _, .tup h r => .tup (SqT.ext e h) (RVs.ext e r)
  | _, _, .lst hm hn h r => .lst (e.keep _ _ h hm hn).2.1 (e.keep _ _ h hm hn).2.2 (e.keep _ _ h hm hn).1 (RVs.ext e r)
  | _, _, .scr h r => .scr (h.imp (fun ⟨o, z⟩ => ⟨o, e.frz _ _ _ z⟩) id) (RVs.ext e r)
  | _, _, .ref h => .ref (by
      obtain ⟨m, rfl⟩ := e.pre
      rw [List.getElem?_append_left (List.getElem?_eq_some_iff.mp h).1]; exact h)
theorem RVs.ext (e : Ext η μ H η' μ' H') : ∀ {ds : List D} {vs : List V}, RVs K H η μ ds vs → RVs K H' η' μ' ds vs
  | _, _, .nil => .nil
  | _, _, .cons h r => .cons (RV.ext e h) (RVs.ext e r)
end
theorem RVs.length : ∀ {ds : List D} {vs : List V}, RVs K H η μ ds vs → ds.length = vs.length
  | _, _, .nil => rfl
  | _, _, .cons _ r => by simp [RVs.length r]
theorem RVs.get : ∀ {ds : List D} {vs : List V} {i : Nat} {d : D}, RVs K H η μ ds vs → ds[i]? = some d → ∃ v, vs[i]? = some v ∧ RV K H η μ d v
  | _, _, _, _, .nil, e => by simp at e
  | _, _, 0, _, .cons r _, e => by simp at e; subst e; exact ⟨_, rfl, r⟩
  | _, _, i + 1, d, .cons _ t, e => by
    obtain ⟨v, h1, h2⟩ := RVs.get (i := i) (d := d) t (by simpa using e)
    exact ⟨v, by simpa using h1, h2⟩
theorem RVs.append : ∀ {ds es : List D} {vs ws : List V}, RVs K H η μ ds vs → RVs K H η μ es ws → RVs K H η μ (ds ++ es) (vs ++ ws)
  | _, _, _, _, .nil, s => s
  | _, _, _, _, .cons r t, s => .cons r (RVs.append t s)
theorem RVs.set {d : D} {v : V} (r : RV K H η μ d v) : ∀ {ds : List D} {vs : List V} (i : Nat), RVs K H η μ ds vs → RVs K H η μ (ds.set i d) (vs.set i v)
  | _, _, _, .nil => .nil
  | _, _, 0, .cons _ t => .cons r t
  | _, _, i + 1, .cons q t => .cons q (RVs.set r i t)
theorem RVs.take : ∀ {ds : List D} {vs : List V} (n : Nat), RVs K H η μ ds vs → RVs K H η μ (ds.take n) (vs.take n)
  | _, _, 0, _ => by simpa using .nil
  | _, _, _ + 1, .nil => .nil
  | _, _, n + 1, .cons r t => .cons r (RVs.take n t)
theorem RVs.drop : ∀ {ds : List D} {vs : List V} (n : Nat), RVs K H η μ ds vs → RVs K H η μ (ds.drop n) (vs.drop n)
  | _, _, 0, r => r
  | _, _, _ + 1, .nil => .nil
  | _, _, n + 1, .cons _ t => RVs.drop n t

/-- the environment -/
structure RE (K : PySem.W.Frag) (H : Hp) (η μ : List Addr) (ρ : DEnv) (σ : St) : Prop where
  len : ρ.length = σ.length
  get : ∀ (i : Nat) (d : D), ρ[i]? = some (some d) → ∃ v, σ[i]? = some (some v) ∧ RV K H η μ d v
theorem RE.ext (e : Ext η μ H η' μ' H') {ρ : DEnv} {σ : St} (r : RE K H η μ ρ σ) : RE K H' η' μ' ρ σ :=
  ⟨r.len, fun i d h => let ⟨v, a, b⟩ := r.get i d h; ⟨v, a, b.ext e⟩⟩
theorem RE.set {ρ : DEnv} {σ : St} (r : RE K H η μ ρ σ) {d : D} {v : V} (h : RV K H η μ d v) (i : Nat) : RE K H η μ (ρ.set i (some d)) (σ.set i (some v)) := by
  refine ⟨by simp [r.len], fun j e q => ?_⟩
  by_cases hj : i = j
  · subst hj
    have hl : i < ρ.length := by
      have := (List.getElem?_eq_some_iff.mp q).1
      simpa using this
    rw [List.getElem?_set_self hl] at q
    cases q
    exact ⟨v, by rw [List.getElem?_set_self (by rw [← r.len]; exact hl)], h⟩
  · rw [List.getElem?_set_ne hj] at q ⊢
    exact r.get j e q
theorem RE.del {ρ : DEnv} {σ : St} (r : RE K H η μ ρ σ) (i : Nat) : RE K H η μ (ρ.set i none) (σ.set i none) := by
  refine ⟨by simp [r.len], fun j e q => ?_⟩
  by_cases hj : i = j
  · subst hj
    have hl : i < ρ.length := by
      have := (List.getElem?_eq_some_iff.mp q).1
      simpa using this
    rw [List.getElem?_set_self hl] at q
    cases q
  · rw [List.getElem?_set_ne hj] at q ⊢
    exact r.get j e q

def COk (K : PySem.W.Frag) (H : Hp) (η μ : List Addr) : Cell → Option HO → Prop
  | .lst ds, o => ∃ vs, o = some (.lst vs) ∧ RVs K H η μ ds vs
theorem COk.ext (e : Ext η μ H η' μ' H') {c : Cell} {o : Option HO} (h : COk K H η μ c o) : COk K H' η' μ' c o := by
  cases c with
  | lst ds => obtain ⟨vs, a, b⟩ := h; exact ⟨vs, a, b.ext e⟩
theorem COk.isSome {c : Cell} {o : Option HO} (h : COk K H η μ c o) : o ≠ none := by
  cases c with
  | lst ds => obtain ⟨vs, rfl, b⟩ := h; exact fun z => nomatch z
theorem COk.notTup {c : Cell} {xs : List V} (h : COk K H η μ c (some (.tup xs))) : False := by
  cases c with
  | lst ds => obtain ⟨vs, e, b⟩ := h; cases e
theorem COk.notFrz {c : Cell} {o : Obj} {u : HO} (h : COk K H η μ c (some (.frz o u))) : False := by
  cases c with
  | lst ds => obtain ⟨vs, e, b⟩ := h; cases e

structure Rp (K : PySem.W.Frag) (η μ : List Addr) (S : DStore) (H : Hp) : Prop where
  len : μ.length = S.length
  nodup : μ.Nodup
  cell : ∀ (n : Nat) (c : Cell), S[n]? = some c → ∃ a, μ[n]? = some a ∧ COk K H η μ c (H a)
  hid : ∀ a ∈ η, a ∉ μ ∧ H a ≠ none ∧ (∀ xs, H a ≠ some (.tup xs)) ∧ ∀ o u, H a ≠ some (.frz o u)
theorem Rp.at (r : Rp K η μ S H) {a : Addr} (h : a ∈ μ) : ∃ (n : Nat) (c : Cell), S[n]? = some c ∧ μ[n]? = some a ∧ COk K H η μ c (H a) := by
  obtain ⟨n, hn, e⟩ := List.getElem_of_mem h
  have hn' : n < S.length := by rw [← r.len]; exact hn
  obtain ⟨b, hb, hc⟩ := r.cell n S[n] (List.getElem?_eq_getElem hn')
  have : b = a := by
    rw [List.getElem?_eq_getElem hn] at hb
    cases hb; exact e
  subst this
  exact ⟨n, S[n], List.getElem?_eq_getElem hn', hb, hc⟩
theorem Rp.fresh {S : DStore} (r : Rp K η μ S H) {p : Addr} (h : H p = none) : p ∉ μ ∧ p ∉ η :=
  ⟨fun z => let ⟨_, _, _, _, c⟩ := r.at z; c.isSome h, fun z => (r.hid p z).2.1 h⟩

theorem grow_new {S : DStore} (r : Rp K η μ S H) {p : Addr} {o : HO} (h : H p = none) : Grow μ H μ (upd H p o) :=
  ⟨⟨[], by simp⟩, fun a u e n => ⟨by rw [upd_ne (ne_of_none e h)]; exact e, n⟩, fun a xs e => by rw [upd_ne (ne_of_none e h)]; exact e, fun a u w e => by rw [upd_ne (ne_of_none e h)]; exact e⟩
/-- a new thing that is not in the store -/
theorem rp_new {S : DStore} (r : Rp K η μ S H) {p : Addr} {o : HO} (h : H p = none) : Rp K η μ S (upd H p o) := by
  have g := (grow_new (o := o) r h).ext (η := η)
  have f := r.fresh h
  refine ⟨r.len, r.nodup, fun n c e => ?_, fun a ha => ?_⟩
  · obtain ⟨a, ha, hc⟩ := r.cell n c e
    have : a ≠ p := fun z => f.1 (z ▸ List.mem_of_getElem? ha)
    exact ⟨a, ha, by rw [upd_ne this]; exact hc.ext g⟩
  · have : a ≠ p := fun z => f.2 (z ▸ ha)
    rw [upd_ne this]; exact r.hid a ha
theorem rv_new_lst {S : DStore} (r : Rp K η μ S H) {p : Addr} {ds : List D} {vs : List V} (h : H p = none) (q : RVs K H η μ ds vs) : RV K (upd H p (.lst vs)) η μ (.lst ds) (.ref p) :=
  .lst (r.fresh h).1 (r.fresh h).2 upd_same (q.ext (grow_new r h).ext)
theorem rv_new_tup {S : DStore} (r : Rp K η μ S H) {p : Addr} {ds : List D} {vs : List V} (h : H p = none) (q : RVs K H η μ ds vs) : RV K (upd H p (.tup vs)) η μ (.tup ds) (.ref p) :=
  .tup (.inl (.inl upd_same)) (q.ext (grow_new r h).ext)
/-- a new list in the store -/
theorem grow_cell {S : DStore} (r : Rp K η μ S H) {p : Addr} {o : HO} (h : H p = none) : Grow μ H (μ ++ [p]) (upd H p o) :=
  ⟨⟨[p], rfl⟩, fun a u e n => ⟨by rw [upd_ne (ne_of_none e h)]; exact e, fun z => by
    rcases List.mem_append.mp z with z | z
    · exact n z
    · exact ne_of_none e h (by simpa using z)⟩, fun a xs e => by rw [upd_ne (ne_of_none e h)]; exact e, fun a u w e => by rw [upd_ne (ne_of_none e h)]; exact e⟩
theorem rp_cell {S : DStore} (r : Rp K η μ S H) {p : Addr} {ds : List D} {vs : List V} (h : H p = none) (q : RVs K H η μ ds vs) : Rp K η (μ ++ [p]) (S ++ [.lst ds]) (upd H p (.lst vs)) := by
  have g := (grow_cell (o := .lst vs) r h).ext (η := η)
  have f := r.fresh h
  refine ⟨by simp [r.len], ?_, fun n c e => ?_, fun a ha => ?_⟩
  · rw [List.nodup_append]
    exact ⟨r.nodup, by simp, fun a ha b hb => by simp at hb; subst hb; exact fun z => f.1 (z ▸ ha)⟩
  · by_cases hn : n < S.length
    · rw [List.getElem?_append_left hn] at e
      obtain ⟨a, ha, hc⟩ := r.cell n c e
      have : a ≠ p := fun z => f.1 (z ▸ List.mem_of_getElem? ha)
      refine ⟨a, by rw [List.getElem?_append_left (by rw [r.len]; exact hn)]; exact ha, by rw [upd_ne this]; exact hc.ext g⟩
    · have hn' : n = S.length := by
        have := (List.getElem?_eq_some_iff.mp e).1
        simp at this
        omega
      subst hn'
      simp at e
      subst e
      exact ⟨p, by rw [← r.len]; simp, vs, upd_same, q.ext g⟩
  · have : a ≠ p := fun z => f.2 (z ▸ ha)
    have q := r.hid a ha
    rw [upd_ne this]
    exact ⟨fun z => by
      rcases List.mem_append.mp z with z | z
      · exact q.1 z
      · exact this (by simpa using z), q.2⟩
theorem rv_cell {S : DStore} (r : Rp K η μ S H) {p : Addr} {H' : Hp} : RV K H' η (μ ++ [p]) (.ref S.length) (.ref p) := .ref (by rw [← r.len]; simp)
/-- a cell is changed -/
theorem grow_set {S : DStore} (r : Rp K η μ S H) {a : Addr} {n : Nat} {o : HO} (h : μ[n]? = some a) : Grow μ H μ (upd H a o) := by
  have hm : a ∈ μ := List.mem_of_getElem? h
  obtain ⟨_, c, _, _, hc⟩ := r.at hm
  refine ⟨⟨[], by simp⟩, fun b u e n => ⟨?_, n⟩, fun b xs e => ?_, fun b u w e => ?_⟩
  · have ne : b ≠ a := fun z => n (by rw [z]; exact hm)
    rw [upd_ne ne]; exact e
  · rw [upd_ne (fun z => by subst z; rw [e] at hc; exact hc.notTup)]; exact e
  · rw [upd_ne (fun z => by subst z; rw [e] at hc; exact hc.notFrz)]; exact e
theorem rp_set {S : DStore} (r : Rp K η μ S H) {a : Addr} {n : Nat} {ds : List D} {vs : List V} (h : μ[n]? = some a) (q : RVs K H η μ ds vs) : Rp K η μ (S.set n (.lst ds)) (upd H a (.lst vs)) := by
  have g := (grow_set (o := .lst vs) r h).ext (η := η)
  refine ⟨by simp [r.len], r.nodup, fun m c e => ?_, fun b hb => ?_⟩
  · by_cases hm : n = m
    · subst hm
      have hl : n < S.length := by
        have := (List.getElem?_eq_some_iff.mp e).1
        simpa using this
      rw [List.getElem?_set_self hl] at e
      cases e
      exact ⟨a, h, vs, upd_same, q.ext g⟩
    · rw [List.getElem?_set_ne hm] at e
      obtain ⟨b, hb, hc⟩ := r.cell m c e
      have : b ≠ a := fun z => by
        subst z
        exact hm ((List.getElem?_inj (List.getElem?_eq_some_iff.mp h).1 r.nodup).mp (h.trans hb.symm))
      exact ⟨b, hb, by rw [upd_ne this]; exact hc.ext g⟩
  · have : b ≠ a := fun z => (r.hid b hb).1 (z ▸ List.mem_of_getElem? h)
    rw [upd_ne this]; exact r.hid b hb
/-- a hidden list -/
theorem ext_hide {S : DStore} (r : Rp K η μ S H) {p : Addr} {o : HO} (h : H p = none) : Ext η μ H (p :: η) μ (upd H p o) :=
  ⟨⟨[], by simp⟩, fun a u e n m => ⟨by rw [upd_ne (ne_of_none e h)]; exact e, n, fun z => by
    rcases List.mem_cons.mp z with z | z
    · exact ne_of_none e h z
    · exact m z⟩, fun a xs e => by rw [upd_ne (ne_of_none e h)]; exact e, fun a u w e => by rw [upd_ne (ne_of_none e h)]; exact e⟩
theorem rp_hide {S : DStore} (r : Rp K η μ S H) {p : Addr} {vs : List V} (h : H p = none) : Rp K (p :: η) μ S (upd H p (.lst vs)) := by
  have g := ext_hide (o := .lst vs) r h
  have f := r.fresh h
  refine ⟨r.len, r.nodup, fun n c e => ?_, fun a ha => ?_⟩
  · obtain ⟨a, ha, hc⟩ := r.cell n c e
    have : a ≠ p := fun z => f.1 (z ▸ List.mem_of_getElem? ha)
    exact ⟨a, ha, by rw [upd_ne this]; exact hc.ext g⟩
  · rcases List.mem_cons.mp ha with rfl | ha
    · rw [upd_same]; exact ⟨f.1, (fun z => nomatch z), (fun _ z => nomatch z), (fun _ _ z => nomatch z)⟩
    · have : a ≠ p := fun z => f.2 (z ▸ ha)
      rw [upd_ne this]; exact r.hid a ha
/-- the hidden list is changed -/
theorem ext_hset {S : DStore} (r : Rp K (p :: η) μ S H) {o : HO} : Ext (p :: η) μ H (p :: η) μ (upd H p o) := by
  have q := r.hid p (by simp)
  refine ⟨⟨[], by simp⟩, fun a u e n m => ⟨?_, n, m⟩, fun b xs e => ?_, fun b u w e => ?_⟩
  · rw [upd_ne (fun z => m (by simp [z]))]; exact e
  · rw [upd_ne (fun z => by subst z; exact q.2.2.1 _ e)]; exact e
  · rw [upd_ne (fun z => by subst z; exact q.2.2.2 _ _ e)]; exact e
theorem rp_hset {S : DStore} (r : Rp K (p :: η) μ S H) {vs : List V} : Rp K (p :: η) μ S (upd H p (.lst vs)) := by
  have g := ext_hset (o := .lst vs) r
  have q := r.hid p (by simp)
  refine ⟨r.len, r.nodup, fun n c e => ?_, fun a ha => ?_⟩
  · obtain ⟨a, ha, hc⟩ := r.cell n c e
    have : a ≠ p := fun z => q.1 (z ▸ List.mem_of_getElem? ha)
    exact ⟨a, ha, by rw [upd_ne this]; exact hc.ext g⟩
  · by_cases hp : a = p
    · subst hp; rw [upd_same]; exact ⟨q.1, (fun z => nomatch z), (fun _ z => nomatch z), (fun _ _ z => nomatch z)⟩
    · rw [upd_ne hp]; exact r.hid a ha
/-- it comes to light -/
theorem ext_show {p : Addr} : Ext (p :: η) μ H η μ H := ⟨⟨[], by simp⟩, fun a o h n m => ⟨h, n, fun z => m (by simp [z])⟩, fun _ _ h => h, fun _ _ _ h => h⟩
theorem rp_show {S : DStore} {p : Addr} (r : Rp K (p :: η) μ S H) : Rp K η μ S H :=
  ⟨r.len, r.nodup, fun n c e => let ⟨a, ha, hc⟩ := r.cell n c e; ⟨a, ha, hc.ext ext_show⟩, fun a ha => r.hid a (by simp [ha])⟩
theorem ext_showCell {p : Addr} : Ext (p :: η) μ H η (μ ++ [p]) H := ⟨⟨[p], rfl⟩, fun a o h n m => ⟨h, fun z => by
    rcases List.mem_append.mp z with z | z
    · exact n z
    · exact m (by simp at z; simp [z]), fun z => m (by simp [z])⟩, fun _ _ h => h, fun _ _ _ h => h⟩
theorem rp_showCell {S : DStore} {p : Addr} {ds : List D} {vs : List V} (hp : p ∉ η) (r : Rp K (p :: η) μ S H) (h : H p = some (.lst vs)) (q : RVs K H (p :: η) μ ds vs) : Rp K η (μ ++ [p]) (S ++ [.lst ds]) H := by
  have g : Ext (p :: η) μ H η (μ ++ [p]) H := ext_showCell
  have z := r.hid p (by simp)
  refine ⟨by simp [r.len], ?_, fun n c e => ?_, fun a ha => ?_⟩
  · rw [List.nodup_append]
    exact ⟨r.nodup, by simp, fun a ha b hb => by simp at hb; subst hb; exact fun y => z.1 (y ▸ ha)⟩
  · by_cases hn : n < S.length
    · rw [List.getElem?_append_left hn] at e
      obtain ⟨a, ha, hc⟩ := r.cell n c e
      exact ⟨a, by rw [List.getElem?_append_left (by rw [r.len]; exact hn)]; exact ha, hc.ext g⟩
    · have hn' : n = S.length := by
        have := (List.getElem?_eq_some_iff.mp e).1
        simp at this
        omega
      subst hn'
      simp at e
      subst e
      exact ⟨p, by rw [← r.len]; simp, vs, h, q.ext g⟩
  · have y := r.hid a (by simp [ha])
    exact ⟨fun w => by
      rcases List.mem_append.mp w with w | w
      · exact y.1 w
      · simp at w; subst w; exact hp ha, y.2⟩
end
end DL

namespace DL
open PySem PySem.Spec PyProof.Rows L2

/-! ### the core -/
/-- constants -/
inductive CC where | non | bl (b : Bool) | int (i : Int) | str (x : Str)
def CC.d : CC → D | .non => .non | .bl b => .bl b | .int i => .int i | .str x => .str x
/-- built-in functions -/
inductive BI where
  | len | abs | min2 | max2 | int1 | tuple1 | list1 | all1 | any1 | repr1 | sum1 | min1 | max1 | sorted1
  deriving DecidableEq
/-- types that isinstance asks about -/
inductive TyB where | int | bool | str | tuple | list
  deriving DecidableEq
mutual
inductive CE where
  | var (i : Nat) | con (c : CC) | glo (j : Nat)
  | bin (op : Operator) (m : Bool) (a b : CE)
  | neg (a : CE)
  | cmp (op : CmpOp) (a b : CE)
  | chain (op op' : CmpOp) (a b c : CE)
  | and_ (a b : CE) | or_ (a b : CE) | not_ (a : CE)
  | ite (t : CB) (a b : CE)
  | tup (es : List CE) | lst (m : Bool) (es : List CE)
  | ix (a i : CE)
  | sl (m : Bool) (a : CE) (lo hi : CO)
  | call (j : Nat) (es : List CE)
  | callK (j : Nat) (es : List CE) (kes : List CE) (perm : List Nat)
  | bi (b : BI) (m : Bool) (es : List CE)
  | isi (t : TyB) (a : CE)
  | lc (m : Bool) (elt : CE) (tg : CT) (it : CI) (ifs : List CB) (own : List Nat)
inductive CB where
  | cand (a b : CB) | cor (a b : CB) | cnot (a : CB)
  | ccmp (op : CmpOp) (a b : CE) | cchain (op op' : CmpOp) (a b c : CE)
  | cval (e : CE)
inductive CT where
  | name (i : Nat) | tup (ts : List CT) | sub (a i : CE)
inductive CI where
  | seq (e : CE) | range1 (a : CE) | range2 (a b : CE) | range3 (a b c : CE) | enum (a : CE) | zip2 (a b : CE)
inductive CO where
  | no | yes (e : CE)
end
mutual
inductive CS where
  | expr (e : CE) | ret (e : CE) | retN | pass | brk | cont | never
  | asg (t : CT) (e : CE) | par2 (i j : Nat) (a b : CE) | par3 (i j k : Nat) (a b c : CE)
  | setLc (i : Nat) (e : CE)
  | aug (i : Nat) (op : Operator) (e : CE)
  | append (a e : CE)
  | if_ (c : CB) (a b : List CS)
  | while_ (c : CB) (b : List CS)
  | for_ (t : CT) (it : CI) (b : List CS)
end

/-! ### what the operations do, by data -/
def lstOf (S : DStore) : D → Option (List D)
  | .lst xs => some xs
  | .ref n => match S[n]? with
    | some (.lst xs) => some xs
    | none => none
  | _ => none
def seqOf (S : DStore) : D → Option (List D)
  | .tup xs => some xs
  | .scr xs => some xs
  | d => lstOf S d
def newL (m : Bool) (ds : List D) (S : DStore) (Q : QE) : Prop :=
  match m with
  | true => Q (.ref S.length) (S ++ [.lst ds])
  | false => Q (.lst ds) S
def i2 (x y : D) (k : Int → Int → Prop) : Prop := match x, y with
  | .int i, .int j => k i j
  | _, _ => False
def MulOk (i j : Int) : Prop := CMul i j ∨ CMulW i j
def DivOk (j : Int) : Prop := j ≠ 0 ∧ j.natAbs.log2 < 9000
def addD (m : Bool) (x y : D) (S : DStore) (Q : QE) : Prop := match x, y with
  | .int i, .int j => Q (.int (i + j)) S
  | .str a, .str b => a.length + b.length ≤ sizeLine ∧ Q (.str (a ++ b)) S
  | .tup a, .tup b => a.length + b.length ≤ sizeLine ∧ Q (.tup (a ++ b)) S
  | x, y => ∃ a b, lstOf S x = some a ∧ lstOf S y = some b ∧ a.length + b.length ≤ sizeLine ∧ newL m (a ++ b) S Q
def mulD (m : Bool) (x y : D) (S : DStore) (Q : QE) : Prop := match x, y with
  | .int i, .int j => MulOk i j ∧ Q (.int (i * j)) S
  | x, .int k => ∃ a, lstOf S x = some a ∧ -(2 ^ 63) ≤ k ∧ k < 2 ^ 63 ∧ a.length * k.toNat ≤ sizeLine ∧ newL m (List.replicate k.toNat a).flatten S Q
  | _, _ => False
def binD (op : Operator) (m : Bool) (x y : D) (S : DStore) (Q : QE) : Prop := match op with
  | .Add => addD m x y S Q
  | .Sub => i2 x y fun i j => Q (.int (i - j)) S
  | .Mult => mulD m x y S Q
  | .FloorDiv => i2 x y fun i j => DivOk j ∧ Q (.int (i.fdiv j)) S
  | .Mod => i2 x y fun i j => j ≠ 0 ∧ Q (.int (i.fmod j)) S
  | .Pow => i2 x y fun i j => CPow i j ∧ Q (.int (i ^ j.toNat)) S
  | .LShift => i2 x y fun i j => CPow i j ∧ Q (.int (i * 2 ^ j.toNat)) S
  | .RShift => i2 x y fun i j => 0 ≤ j ∧ Q (.int (i / 2 ^ j.toNat)) S
  | _ => False
mutual
def pur : D → Option PyData
  | .non => some .none
  | .bl b => some (.bool b)
  | .int i => some (.int i)
  | .str x => some (.str x)
  | .tup xs => (purs xs).map .tuple
  | .lst xs => (purs xs).map .list
  | .ref _ => none
  | .scr _ => none
def purs : List D → Option (List PyData)
  | [] => some []
  | x :: xs => (pur x).bind fun p => (purs xs).map (p :: ·)
end
def purS (S : DStore) : D → Option PyData
  | .ref n => ((lstOf S (.ref n)).bind purs).map .list
  | d => pur d
def eqD (S : DStore) (x y : D) (Q : Bool → Prop) : Prop := match x, y with
  | .int i, .int j => Q (decide (i = j))
  | .bl i, .bl j => Q (decide (i = j))
  | .str i, .str j => Q (decide (i = j))
  | x, y => ∃ p q, purS S x = some p ∧ purS S y = some q ∧ SeqAt.shaped p = true ∧ SeqAt.shaped q = true ∧ Q (PyData.eqv p q)
/-- flat things: what `in` may compare -/
def flatD : D → Bool
  | .non | .bl _ | .int _ | .str _ => true
  | _ => false
def toV : D → V
  | .non => .non | .bl b => .bl b | .int i => .int i | .str x => .str x | _ => .non
def inD (S : DStore) (x y : D) (Q : Bool → Prop) : Prop :=
  ∃ xs, seqOf S y = some xs ∧ flatD x = true ∧ xs.all flatD = true ∧ Q (inV (toV x) (xs.map toV))
def isNon : D → Bool
  | .non => true
  | _ => false
def isD (x y : D) (Q : Bool → Prop) : Prop := match y with
  | .non => Q (isNon x)
  | .bl b => ∃ c, x = .bl c ∧ Q (decide (c = b))
  | _ => False
def cmpD (op : CmpOp) (S : DStore) (x y : D) (Q : Bool → Prop) : Prop := match op with
  | .Lt => i2 x y fun i j => Q (decide (i < j))
  | .LtE => i2 x y fun i j => Q (decide (i ≤ j))
  | .Gt => i2 x y fun i j => Q (decide (j < i))
  | .GtE => i2 x y fun i j => Q (decide (j ≤ i))
  | .Eq => eqD S x y Q
  | .NotEq => eqD S x y fun b => Q (!b)
  | .In => inD S x y Q
  | .NotIn => inD S x y fun b => Q (!b)
  | .Is => isD x y Q
  | .IsNot => isD x y fun b => Q (!b)
def truD (S : DStore) (x : D) (Q : Bool → Prop) : Prop := match x with
  | .non => Q false
  | .bl b => Q b
  | .int i => Q (i != 0)
  | .str y => y.length ≤ sizeLine ∧ Q ((y.length : Int) != 0)
  | d => ∃ xs, seqOf S d = some xs ∧ Q (!xs.isEmpty)
def ixD (S : DStore) (x y : D) (Q : D → Prop) : Prop := match y with
  | .int i => match x with
    | .str z => ∃ c, z.length ≤ sizeLine ∧ atI z.cps.toList i = some c ∧ Q (.str ⟨#[c]⟩)
    | d => ∃ xs v, seqOf S d = some xs ∧ atI xs i = some v ∧ Q v
  | _ => False
def cutD (xs : List D) (lo hi : Option Int) : List D := (xs.drop (HT.sIx xs.length 0 lo)).take (HT.sIx xs.length xs.length hi - HT.sIx xs.length 0 lo)
def slD (m : Bool) (S : DStore) (x : D) (lo hi : Option Int) (Q : QE) : Prop := match x with
  | .tup xs => Q (.tup (cutD xs lo hi)) S
  | d => ∃ xs, lstOf S d = some xs ∧ newL m (cutD xs lo hi) S Q
structure RepOk (p : PyData) : Prop where
  sh : p.showable = true
  dp : p.depth ≤ 50
  nd : p.hasDict = false
  sz : p.shown.length ≤ sizeLine
def blOf : D → Option Bool
  | .bl b => some b
  | _ => none
def inOf : D → Option Int
  | .int b => some b
  | _ => none
def biD (b : BI) (m : Bool) (xs : List D) (S : DStore) (Q : QE) : Prop := match b, xs with
  | .len, [.str y] => y.length ≤ sizeLine ∧ Q (.int y.length) S
  | .len, [d] => ∃ xs, seqOf S d = some xs ∧ Q (.int xs.length) S
  | .abs, [.int i] => Q (.int (if i < 0 then -i else i)) S
  | .min2, [.int i, .int j] => Q (.int (if j < i then j else i)) S
  | .max2, [.int i, .int j] => Q (.int (if j > i then j else i)) S
  | .int1, [.int i] => Q (.int i) S
  | .int1, [.bl k] => Q (.int (if k then 1 else 0)) S
  | .tuple1, [.tup xs] => Q (.tup xs) S
  | .tuple1, [d] => ∃ xs, lstOf S d = some xs ∧ Q (.tup xs) S
  | .list1, [d] => ∃ xs, seqOf S d = some xs ∧ newL m xs S Q
  | .all1, [d] => ∃ xs bs, lstOf S d = some xs ∧ xs.mapM blOf = some bs ∧ Q (.bl (bs.all id)) S
  | .any1, [d] => ∃ xs bs, lstOf S d = some xs ∧ xs.mapM blOf = some bs ∧ Q (.bl (bs.any id)) S
  | .sum1, [d] => ∃ xs bs, lstOf S d = some xs ∧ xs.mapM inOf = some bs ∧ Q (.int bs.sum) S
  | .repr1, [d] => ∃ p, purS S d = some p ∧ RepOk p ∧ Q (.str p.shown) S
  | _, _ => False

def isiD : TyB → D → Bool
  | .int, .int _ => true
  | .int, .bl _ => true
  | .bool, .bl _ => true
  | .str, .str _ => true
  | .tuple, .tup _ => true
  | .list, .lst _ => true
  | .list, .ref _ => true
  | _, _ => false
def isiP (t : TyB) (x : D) (S : DStore) (Q : QE) : Prop := match x with
  | .scr _ => False
  | .ref n => n < S.length ∧ Q (.bl (isiD t (.ref n))) S
  | x => Q (.bl (isiD t x)) S
structure Fns where
  fn : Nat → List D → DStore → QE → Prop
  gl : Nat → D

structure DEnds where
  nx : DEnv → DStore → Prop
  rt : QE
  bk : DEnv → DStore → Prop := fun _ _ => False
  ct : DEnv → DStore → Prop := fun _ _ => False

/-- what is walked: its items, and what must stay -/
abbrev RI := List D → (DStore → Prop) → DStore → Prop
def itD (S : DStore) (x : D) (R : RI) : Prop := match x with
  | .tup xs => R xs (fun _ => True) S
  | .lst xs => R xs (fun _ => True) S
  | .scr xs => R xs (fun _ => True) S
  | .ref n => ∃ xs, S[n]? = some (.lst xs) ∧ R xs (fun S' => S'[n]? = some (.lst xs)) S
  | _ => False
def zipD (xs ys : List D) : List D := (xs.zip ys).map fun p => .tup [p.1, p.2]
def zipP (S : DStore) (x y : D) (R : RI) : Prop := match x, y with
  | .tup xs, .tup ys => R (zipD xs ys) (fun _ => True) S
  | x, y => ∃ xs ys, lstOf S x = some xs ∧ lstOf S y = some ys ∧ R (zipD xs ys) (fun S' => lstOf S' x = some xs ∧ lstOf S' y = some ys) S
def enumD (xs : List D) : List D := xs.zipIdx.map fun p => .tup [.int p.2, p.1]
def enumP (S : DStore) (x : D) (R : RI) : Prop := ∃ xs, lstOf S x = some xs ∧ R (enumD xs) (fun S' => lstOf S' x = some xs) S
def range3D (lo c : Int) (n : Nat) : List D := (List.range n).map fun (k : Nat) => .int (lo + (k : Int) * c)
def rangeD (lo hi : Int) : List D := (List.range (hi - lo).toNat).map fun (k : Nat) => .int (lo + k)
def Sm (i : Int) : Prop := -(2 ^ 62) ≤ i ∧ i < 2 ^ 62
def wipeD (ρ : DEnv) : List Nat → DEnv
  | [] => ρ
  | v :: vs => (wipeD ρ vs).set v none
/-- the rule of a walk that gathers -/
def wpGather (items : List D) (G : DStore → Prop) (S : DStore) (turn : D → DStore → (Option D → DStore → Prop) → Prop) (Q : List D → DStore → Prop) : Prop :=
  ∃ W : Nat → List D → DStore → Prop, W 0 [] S ∧ (∀ i acc S, W i acc S → G S ∧ acc.length ≤ i ∧ i ≤ items.length) ∧ items.length ≤ sizeLine ∧
    (∀ i x acc S, W i acc S → items[i]? = some x → turn x S fun o S' => match o with | some y => W (i + 1) (acc ++ [y]) S' | none => W (i + 1) acc S') ∧
    ∀ acc S, W items.length acc S → Q acc S
def wpWalk (items : List D) (G : DStore → Prop) (ρ : DEnv) (S : DStore) (turn : D → DEnv → DStore → (DEnv → DStore → Prop) → Prop) (Q : DEnv → DStore → Prop) : Prop :=
  ∃ W : Nat → DEnv → DStore → Prop, W 0 ρ S ∧ (∀ i ρ S, W i ρ S → G S) ∧
    (∀ i x ρ S, W i ρ S → items[i]? = some x → turn x ρ S (W (i + 1))) ∧ ∀ ρ S, W items.length ρ S → Q ρ S
def wpLoop (ρ : DEnv) (S : DStore) (test : DEnv → DStore → (Bool → DStore → Prop) → Prop) (turn : DEnv → DStore → (DEnv → DStore → Prop) → Prop) (Q : DEnv → DStore → Prop) : Prop :=
  ∃ W : Nat → DEnv → DStore → Prop, (∃ m, W m ρ S) ∧ ∀ m ρ S, W m ρ S → test ρ S fun b S1 => if b = true then turn ρ S1 (fun ρ' S' => ∃ m', m' < m ∧ W m' ρ' S') else Q ρ S1

section
variable (G : Fns)
mutual
def wpE : CE → DEnv → DStore → QE → Prop
  | .var i, ρ, S, Q => ∃ d, ρ[i]? = some (some d) ∧ Q d S
  | .con c, _, S, Q => Q c.d S
  | .glo j, _, S, Q => Q (G.gl j) S
  | .bin op m a b, ρ, S, Q => wpE a ρ S fun x S1 => wpE b ρ S1 fun y S2 => binD op m x y S2 Q
  | .neg a, ρ, S, Q => wpE a ρ S fun x S1 => ∃ i, x = .int i ∧ Q (.int (-i)) S1
  | .cmp op a b, ρ, S, Q => wpE a ρ S fun x S1 => wpE b ρ S1 fun y S2 => cmpD op S2 x y fun r => Q (.bl r) S2
  | .chain op op' a b c, ρ, S, Q => wpE a ρ S fun x S1 => wpE b ρ S1 fun y S2 => cmpD op S2 x y fun r => if r = true then wpE c ρ S2 fun z S3 => cmpD op' S3 y z fun r' => Q (.bl r') S3 else Q (.bl false) S2
  | .and_ a b, ρ, S, Q => wpE a ρ S fun x S1 => ∃ c, x = .bl c ∧ if c = true then wpE b ρ S1 Q else Q (.bl false) S1
  | .or_ a b, ρ, S, Q => wpE a ρ S fun x S1 => ∃ c, x = .bl c ∧ if c = true then Q (.bl true) S1 else wpE b ρ S1 Q
  | .not_ a, ρ, S, Q => wpE a ρ S fun x S1 => ∃ c, x = .bl c ∧ Q (.bl (!c)) S1
  | .ite t a b, ρ, S, Q => wpB t ρ S fun r S1 => if r = true then wpE a ρ S1 Q else wpE b ρ S1 Q
  | .tup es, ρ, S, Q => wpEs es ρ S fun ds S1 => Q (.tup ds) S1
  | .lst m es, ρ, S, Q => wpEs es ρ S fun ds S1 => newL m ds S1 Q
  | .ix a i, ρ, S, Q => wpE a ρ S fun x S1 => wpE i ρ S1 fun y S2 => ixD S2 x y fun d => Q d S2
  | .sl m a lo hi, ρ, S, Q => wpE a ρ S fun x S1 => wpO lo ρ S1 fun l S2 => wpO hi ρ S2 fun h S3 => slD m S3 x l h Q
  | .call j es, ρ, S, Q => wpEs es ρ S fun ds S1 => G.fn j ds S1 Q
  | .callK j es kes perm, ρ, S, Q => wpEs es ρ S fun ds S1 => wpEs kes ρ S1 fun ks S2 => G.fn j (ds ++ perm.map fun i => ks.getD i .non) S2 Q
  | .bi b m es, ρ, S, Q => wpEs es ρ S fun ds S1 => biD b m ds S1 Q
  | .isi t a, ρ, S, Q => wpE a ρ S fun x S1 => isiP t x S1 Q
  | .lc m elt tg it ifs own, ρ, S, Q => wpI it ρ S fun items G S1 => wpGather items G S1
      (fun x S' N => wpG tg x (wipeD ρ own) S' fun ρ2 S2 => wpBs ifs ρ2 S2 fun r S3 => if r = true then wpE elt ρ2 S3 fun y S4 => N (some y) S4 else N none S3)
      fun acc S' => newL m acc S' Q
def wpEs : List CE → DEnv → DStore → (List D → DStore → Prop) → Prop
  | [], _, S, Q => Q [] S
  | e :: es, ρ, S, Q => wpE e ρ S fun d S1 => wpEs es ρ S1 fun ds S2 => Q (d :: ds) S2
def wpO : CO → DEnv → DStore → (Option Int → DStore → Prop) → Prop
  | .no, _, S, Q => Q none S
  | .yes e, ρ, S, Q => wpE e ρ S fun x S1 => ∃ i, x = .int i ∧ Q (some i) S1
def wpB : CB → DEnv → DStore → (Bool → DStore → Prop) → Prop
  | .cand a b, ρ, S, Q => wpB a ρ S fun r S1 => if r = true then wpB b ρ S1 Q else Q false S1
  | .cor a b, ρ, S, Q => wpB a ρ S fun r S1 => if r = true then Q true S1 else wpB b ρ S1 Q
  | .cnot a, ρ, S, Q => wpB a ρ S fun r S1 => Q (!r) S1
  | .ccmp op a b, ρ, S, Q => wpE a ρ S fun x S1 => wpE b ρ S1 fun y S2 => cmpD op S2 x y fun r => Q r S2
  | .cchain op op' a b c, ρ, S, Q => wpE a ρ S fun x S1 => wpE b ρ S1 fun y S2 => cmpD op S2 x y fun r => if r = true then wpE c ρ S2 fun z S3 => cmpD op' S3 y z fun r' => Q r' S3 else Q false S2
  | .cval e, ρ, S, Q => wpE e ρ S fun x S1 => truD S1 x fun r => Q r S1
def wpBs : List CB → DEnv → DStore → (Bool → DStore → Prop) → Prop
  | [], _, S, Q => Q true S
  | b :: bs, ρ, S, Q => wpB b ρ S fun r S1 => if r = true then wpBs bs ρ S1 Q else Q false S1
def wpG : CT → D → DEnv → DStore → (DEnv → DStore → Prop) → Prop
  | .name i, d, ρ, S, Q => Q (ρ.set i (some d)) S
  | .tup ts, d, ρ, S, Q => ∃ xs, d = .tup xs ∧ xs.length = ts.length ∧ wpGs ts xs ρ S Q
  | .sub a i, d, ρ, S, Q => wpE a ρ S fun x S1 => wpE i ρ S1 fun y S2 => ∃ n xs k j, x = .ref n ∧ y = .int k ∧ S2[n]? = some (.lst xs) ∧ ixN xs.length k = some j ∧ Q ρ (S2.set n (.lst (xs.set j d)))
def wpGs : List CT → List D → DEnv → DStore → (DEnv → DStore → Prop) → Prop
  | [], _, ρ, S, Q => Q ρ S
  | t :: ts, ds, ρ, S, Q => ∃ d r, ds = d :: r ∧ wpG t d ρ S fun ρ1 S1 => wpGs ts r ρ1 S1 Q
def wpI : CI → DEnv → DStore → RI → Prop
  | .seq e, ρ, S, R => wpE e ρ S fun x S1 => itD S1 x R
  | .range1 a, ρ, S, R => wpE a ρ S fun x S1 => ∃ j, x = .int j ∧ Sm j ∧ R (rangeD 0 j) (fun _ => True) S1
  | .range2 a b, ρ, S, R => wpE a ρ S fun x S1 => wpE b ρ S1 fun y S2 => ∃ i j, x = .int i ∧ y = .int j ∧ Sm i ∧ Sm j ∧ R (rangeD i j) (fun _ => True) S2
  | .range3 a b c, ρ, S, R => wpE a ρ S fun x S1 => wpE b ρ S1 fun y S2 => wpE c ρ S2 fun z S3 => ∃ i j k n, x = .int i ∧ y = .int j ∧ z = .int k ∧ RgC i j k n ∧ R (range3D i k n) (fun _ => True) S3
  | .enum a, ρ, S, R => wpE a ρ S fun x S1 => enumP S1 x R
  | .zip2 a b, ρ, S, R => wpE a ρ S fun x S1 => wpE b ρ S1 fun y S2 => zipP S2 x y R
end
mutual
def wpS : CS → DEnv → DStore → DEnds → Prop
  | .expr e, ρ, S, K => wpE G e ρ S fun _ S1 => K.nx ρ S1
  | .ret e, ρ, S, K => wpE G e ρ S K.rt
  | .retN, ρ, S, K => K.rt .non S
  | .pass, ρ, S, K => K.nx ρ S
  | .brk, ρ, S, K => K.bk ρ S
  | .cont, ρ, S, K => K.ct ρ S
  | .never, _, _, _ => False
  | .asg t e, ρ, S, K => wpE G e ρ S fun d S1 => wpG G t d ρ S1 K.nx
  | .par2 i j a b, ρ, S, K => wpE G a ρ S fun x S1 => wpE G b ρ S1 fun y S2 => K.nx ((ρ.set i (some x)).set j (some y)) S2
  | .par3 i j k a b c, ρ, S, K => wpE G a ρ S fun x S1 => wpE G b ρ S1 fun y S2 => wpE G c ρ S2 fun z S3 => K.nx (((ρ.set i (some x)).set j (some y)).set k (some z)) S3
  | .setLc i e, ρ, S, K => wpE G e ρ S fun d S1 => K.nx (ρ.set i (some d)) S1
  | .aug i op e, ρ, S, K => ∃ x, ρ[i]? = some (some x) ∧ wpE G e ρ S fun y S1 => i2 x y fun a b => match op with
      | .Add => K.nx (ρ.set i (some (.int (a + b)))) S1
      | .Sub => K.nx (ρ.set i (some (.int (a - b)))) S1
      | _ => False
  | .append a e, ρ, S, K => wpE G a ρ S fun x S1 => ∃ n, x = .ref n ∧ n < S1.length ∧ wpE G e ρ S1 fun y S2 => ∃ xs, S2[n]? = some (.lst xs) ∧ xs.length < sizeLine ∧ K.nx ρ (S2.set n (.lst (xs ++ [y])))
  | .if_ c a b, ρ, S, K => wpB G c ρ S fun r S1 => if r = true then wpSs a ρ S1 K else wpSs b ρ S1 K
  | .while_ c b, ρ, S, K => wpLoop ρ S (fun ρ S Q => wpB G c ρ S Q) (fun ρ S N => wpSs b ρ S { K with nx := N, ct := N, bk := K.nx }) K.nx
  | .for_ t it b, ρ, S, K => wpI G it ρ S fun items I S1 => wpWalk items I ρ S1 (fun x ρ' S' N => wpG G t x ρ' S' fun ρ2 S2 => wpSs b ρ2 S2 { K with nx := N, ct := N, bk := K.nx }) K.nx
def wpSs : List CS → DEnv → DStore → DEnds → Prop
  | [], ρ, S, K => K.nx ρ S
  | s :: ss, ρ, S, K => wpS s ρ S { K with nx := fun ρ1 S1 => wpSs ss ρ1 S1 K }
end
end
end DL

namespace DL
open PySem PySem.Spec PyProof.Rows L2

/-! ### judgements -/
abbrev TD := DEnv → DStore → QE → Prop
def Post (K : PySem.W.Frag) (η μ : List Addr) (H : Hp) (QD : QE) (v : V) (H' : Hp) : Prop := ∃ d S' μ', Grow μ H μ' H' ∧ Rp K η μ' S' H' ∧ RV K H' η μ' d v ∧ QD d S'
def Posts (K : PySem.W.Frag) (η μ : List Addr) (H : Hp) (QD : List D → DStore → Prop) (vs : List V) (H' : Hp) : Prop := ∃ ds S' μ', Grow μ H μ' H' ∧ Rp K η μ' S' H' ∧ RVs K H' η μ' ds vs ∧ QD ds S'
def PostA {α : Type} (K : PySem.W.Frag) (η μ : List Addr) (H : Hp) (QD : α → DStore → Prop) (b : α) (H' : Hp) : Prop := ∃ S' μ', Grow μ H μ' H' ∧ Rp K η μ' S' H' ∧ QD b S'
def tOf (K : PySem.W.Frag) (T : TD) : TE := fun σ H Q => ∃ η μ ρ S QD, RE K H η μ ρ σ ∧ Rp K η μ S H ∧ T ρ S QD ∧ ∀ v H', Post K η μ H QD v H' → Q v H'
def aOf (K : PySem.W.Frag) (n : Nat) (T : DEnv → DStore → (List D → DStore → Prop) → Prop) : TA := fun σ H Q => ∃ η μ ρ S QD, RE K H η μ ρ σ ∧ Rp K η μ S H ∧ T ρ S QD ∧ ∀ v H', Posts K η μ H QD v H' → v.length = n → Q v H'
def bOf {α : Type} (K : PySem.W.Frag) (T : DEnv → DStore → (α → DStore → Prop) → Prop) : St → Hp → (α → Hp → Prop) → Prop := fun σ H Q => ∃ η μ ρ S QD, RE K H η μ ρ σ ∧ Rp K η μ S H ∧ T ρ S QD ∧ ∀ v H', PostA K η μ H QD v H' → Q v H'
def DE (X : Cx) (e : Expr) (T : TD) : Prop := PE X e (tOf X.K T)
def DAs (X : Cx) (es : List Expr) (n : Nat) (T : DEnv → DStore → (List D → DStore → Prop) → Prop) : Prop := PA X es (aOf X.K n T)
def DB (X : Cx) (e : Expr) (T : DEnv → DStore → (Bool → DStore → Prop) → Prop) : Prop := PT X e (bOf X.K T)
def DO (X : Cx) (e : Option Expr) (T : DEnv → DStore → (Option Int → DStore → Prop) → Prop) : Prop := PO X e (bOf X.K T)
structure EndsOk (K : PySem.W.Frag) (η μ : List Addr) (H : Hp) (ED : DEnds) (E : Ends) : Prop where
  nx : ∀ ρ' S' σ' μ' H', Grow μ H μ' H' → Rp K η μ' S' H' → RE K H' η μ' ρ' σ' → ED.nx ρ' S' → E.nx σ' H'
  rt : ∀ d S' v μ' H', Grow μ H μ' H' → Rp K η μ' S' H' → RV K H' η μ' d v → ED.rt d S' → E.rt v H'
  bk : ∀ ρ' S' σ' μ' H', Grow μ H μ' H' → Rp K η μ' S' H' → RE K H' η μ' ρ' σ' → ED.bk ρ' S' → E.bk σ' H'
  ct : ∀ ρ' S' σ' μ' H', Grow μ H μ' H' → Rp K η μ' S' H' → RE K H' η μ' ρ' σ' → ED.ct ρ' S' → E.ct σ' H'
def sOf (K : PySem.W.Frag) (T : DEnv → DStore → DEnds → Prop) : TS := fun E σ H => ∃ η μ ρ S ED, RE K H η μ ρ σ ∧ Rp K η μ S H ∧ T ρ S ED ∧ EndsOk K η μ H ED E
def DS (X : Cx) (st : Stmt) (T : DEnv → DStore → DEnds → Prop) : Prop := PS X st (sOf X.K T)
def DSs (X : Cx) (st : List Stmt) (T : DEnv → DStore → DEnds → Prop) : Prop := PSs X st (sOf X.K T)
def JOk (K : PySem.W.Frag) (η μ : List Addr) (H : Hp) (J : It) (items : List D) (I : DStore → Prop) : Prop :=
  ∀ (i : Nat) η' μ' S' H', Ext η μ H η' μ' H' → Rp K η' μ' S' H' → I S' →
    (i < items.length → J.go i H' ∧ ∀ x H'', J.yld i H' x H'' → Grow μ' H' μ' H'' ∧ Rp K η' μ' S' H'' ∧ ∃ d, items[i]? = some d ∧ RV K H'' η' μ' d x) ∧ (items.length ≤ i → J.stop i H')
def iOf (K : PySem.W.Frag) (T : DEnv → DStore → RI → Prop) : TI := fun σ H R => ∃ η μ ρ S RD, RE K H η μ ρ σ ∧ Rp K η μ S H ∧ T ρ S RD ∧
  ∀ J H1 items I S1 μ1, Grow μ H μ1 H1 → Rp K η μ1 S1 H1 → RD items I S1 → JOk K η μ1 H1 J items I → R J H1
def DI (X : Cx) (tg e : Expr) (T : DEnv → DStore → RI → Prop) : Prop := PI X tg e (iOf X.K T)

section
variable {X : Cx}
theorem PE.imp {e : Expr} {t t' : TE} (h : PE X e t) (i : ∀ σ H Q, t' σ H Q → t σ H Q) : PE X e t' := ⟨fun pins s σ H Q I q => h.run pins s σ H Q I (i _ _ _ q)⟩
theorem PT.imp {e : Expr} {t t' : TT} (h : PT X e t) (i : ∀ σ H Q, t' σ H Q → t σ H Q) : PT X e t' := ⟨fun pins s σ H Q I q => h.run pins s σ H Q I (i _ _ _ q)⟩
theorem PW.imp {e : Expr} {t t' : TT} (h : PW X e t) (i : ∀ σ H Q, t' σ H Q → t σ H Q) : PW X e t' := ⟨fun wh pins s σ H Q I q => h.run wh pins s σ H Q I (i _ _ _ q)⟩
theorem PTs.imp {e : List Expr} {t t' : TT} (h : PTs X e t) (i : ∀ σ H Q, t' σ H Q → t σ H Q) : PTs X e t' := ⟨fun pins s σ H Q I q => h.run pins s σ H Q I (i _ _ _ q)⟩
theorem PA.imp {e : List Expr} {t t' : TA} (h : PA X e t) (i : ∀ σ H Q, t' σ H Q → t σ H Q) : PA X e t' := ⟨fun pos pins s σ H Q I q => h.run pos pins s σ H Q I (i _ _ _ q)⟩
theorem PK.imp {e : List Keyword} {t t' : TA} (h : PK X e t) (i : ∀ σ H Q, t' σ H Q → t σ H Q) : PK X e t' := ⟨fun pos pins s σ H Q I q => h.run pos pins s σ H Q I (i _ _ _ q)⟩
theorem PO.imp {e : Option Expr} {t t' : TO} (h : PO X e t) (i : ∀ σ H Q, t' σ H Q → t σ H Q) : PO X e t' := ⟨fun pins s σ H Q I q => h.run pins s σ H Q I (i _ _ _ q)⟩
theorem PI.imp {tg e : Expr} {t t' : TI} (h : PI X tg e t) (i : ∀ σ H Q, t' σ H Q → t σ H Q) : PI X tg e t' := ⟨fun pins s σ H Q I q => h.run pins s σ H Q I (i _ _ _ q)⟩
theorem PS.imp {e : Stmt} {t t' : TS} (h : PS X e t) (i : ∀ E σ H, t' E σ H → t E σ H) : PS X e t' := ⟨fun pins s σ H E I q => h.run pins s σ H E I (i _ _ _ q)⟩
theorem PSs.imp {e : List Stmt} {t t' : TS} (h : PSs X e t) (i : ∀ E σ H, t' E σ H → t E σ H) : PSs X e t' := ⟨fun pins s σ H E I q => h.run pins s σ H E I (i _ _ _ q)⟩
theorem PI.or {tg e : Expr} {t t' : TI} (h : PI X tg e t) (h' : PI X tg e t') : PI X tg e (fun σ H R => t σ H R ∨ t' σ H R) := ⟨fun pins s σ H Q I q => q.elim (h.run pins s σ H Q I) (h'.run pins s σ H Q I)⟩
theorem PE.or {e : Expr} {t t' : TE} (h : PE X e t) (h' : PE X e t') : PE X e (fun σ H R => t σ H R ∨ t' σ H R) := ⟨fun pins s σ H Q I q => q.elim (h.run pins s σ H Q I) (h'.run pins s σ H Q I)⟩

theorem DE.mk {e : Expr} {t : TE} {T : TD} (h : PE X e t) (i : ∀ η μ ρ S σ H (Q : VK) (QD : QE), RE X.K H η μ ρ σ → Rp X.K η μ S H → T ρ S QD → (∀ v H', Post X.K η μ H QD v H' → Q v H') → t σ H Q) : DE X e T :=
  PE.imp h fun σ H Q ⟨η, μ, ρ, S, QD, hE, hR, hT, hQ⟩ => i η μ ρ S σ H Q QD hE hR hT hQ
theorem DB.mk {e : Expr} {t : TT} {T} (h : PT X e t) (i : ∀ η μ ρ S σ H (Q : Bool → Hp → Prop) (QD : Bool → DStore → Prop), RE X.K H η μ ρ σ → Rp X.K η μ S H → T ρ S QD → (∀ v H', PostA X.K η μ H QD v H' → Q v H') → t σ H Q) : DB X e T :=
  PT.imp h fun σ H Q ⟨η, μ, ρ, S, QD, hE, hR, hT, hQ⟩ => i η μ ρ S σ H Q QD hE hR hT hQ
theorem DS.mk {e : Stmt} {t : TS} {T} (h : PS X e t) (i : ∀ η μ ρ S σ H (E : Ends) (ED : DEnds), RE X.K H η μ ρ σ → Rp X.K η μ S H → T ρ S ED → EndsOk X.K η μ H ED E → t E σ H) : DS X e T :=
  PS.imp h fun E σ H ⟨η, μ, ρ, S, ED, hE, hR, hT, hQ⟩ => i η μ ρ S σ H E ED hE hR hT hQ
theorem DSs.mk {e : List Stmt} {t : TS} {T} (h : PSs X e t) (i : ∀ η μ ρ S σ H (E : Ends) (ED : DEnds), RE X.K H η μ ρ σ → Rp X.K η μ S H → T ρ S ED → EndsOk X.K η μ H ED E → t E σ H) : DSs X e T :=
  PSs.imp h fun E σ H ⟨η, μ, ρ, S, ED, hE, hR, hT, hQ⟩ => i η μ ρ S σ H E ED hE hR hT hQ
/-- one after another: hand on -/
theorem use {K : PySem.W.Frag} {η μ : List Addr} {ρ : DEnv} {S : DStore} {σ : St} {H : Hp} {T : TD} {QD : QE} {Q : VK} (hE : RE K H η μ ρ σ) (hR : Rp K η μ S H) (hT : T ρ S QD)
    (hQ : ∀ d S1 v μ1 H1, Grow μ H μ1 H1 → Rp K η μ1 S1 H1 → RE K H1 η μ1 ρ σ → RV K H1 η μ1 d v → QD d S1 → Q v H1) : tOf K T σ H Q :=
  ⟨η, μ, ρ, S, QD, hE, hR, hT, fun v H1 ⟨d, S1, μ1, g, r, rv, q⟩ => hQ d S1 v μ1 H1 g r (hE.ext g.ext) rv q⟩
theorem useA {K : PySem.W.Frag} {n : Nat} {η μ : List Addr} {ρ : DEnv} {S : DStore} {σ : St} {H : Hp} {T} {QD : List D → DStore → Prop} {Q : List V → Hp → Prop} (hE : RE K H η μ ρ σ) (hR : Rp K η μ S H) (hT : T ρ S QD)
    (hQ : ∀ ds S1 vs μ1 H1, Grow μ H μ1 H1 → Rp K η μ1 S1 H1 → RE K H1 η μ1 ρ σ → RVs K H1 η μ1 ds vs → vs.length = n → QD ds S1 → Q vs H1) : aOf K n T σ H Q :=
  ⟨η, μ, ρ, S, QD, hE, hR, hT, fun v H1 ⟨d, S1, μ1, g, r, rv, q⟩ hl => hQ d S1 v μ1 H1 g r (hE.ext g.ext) rv hl q⟩
theorem useB {α : Type} {K : PySem.W.Frag} {η μ : List Addr} {ρ : DEnv} {S : DStore} {σ : St} {H : Hp} {T} {QD : α → DStore → Prop} {Q : α → Hp → Prop} (hE : RE K H η μ ρ σ) (hR : Rp K η μ S H) (hT : T ρ S QD)
    (hQ : ∀ b S1 μ1 H1, Grow μ H μ1 H1 → Rp K η μ1 S1 H1 → RE K H1 η μ1 ρ σ → QD b S1 → Q b H1) : bOf K T σ H Q :=
  ⟨η, μ, ρ, S, QD, hE, hR, hT, fun v H1 ⟨S1, μ1, g, r, q⟩ => hQ v S1 μ1 H1 g r (hE.ext g.ext) q⟩
theorem useS {K : PySem.W.Frag} {η μ : List Addr} {ρ : DEnv} {S : DStore} {σ : St} {H : Hp} {T : DEnv → DStore → DEnds → Prop} {ED : DEnds} {E : Ends} (hE : RE K H η μ ρ σ) (hR : Rp K η μ S H) (hT : T ρ S ED) (hQ : EndsOk K η μ H ED E) : sOf K T E σ H :=
  ⟨η, μ, ρ, S, ED, hE, hR, hT, hQ⟩
theorem EndsOk.grow {K : PySem.W.Frag} {η μ μ1 : List Addr} {H H1 : Hp} {ED : DEnds} {E : Ends} (h : EndsOk K η μ H ED E) (g : Grow μ H μ1 H1) : EndsOk K η μ1 H1 ED E :=
  ⟨fun ρ S σ μ' H' g' => h.nx ρ S σ μ' H' (g.trans g'), fun ρ S σ μ' H' g' => h.rt ρ S σ μ' H' (g.trans g'), fun ρ S σ μ' H' g' => h.bk ρ S σ μ' H' (g.trans g'), fun ρ S σ μ' H' g' => h.ct ρ S σ μ' H' (g.trans g')⟩
end

/-! ### operations by values -/
section
variable {X : Cx} {K : PySem.W.Frag} {η μ : List Addr} {S : DStore} {H : Hp}
theorem lst_of (r : Rp K η μ S H) {d : D} {v : V} {xs : List D} (rv : RV K H η μ d v) (e : lstOf S d = some xs) : ∃ a vs, v = .ref a ∧ H a = some (.lst vs) ∧ RVs K H η μ xs vs := by
  cases rv with
  | lst hm hn h q => simp [lstOf] at e; subst e; exact ⟨_, _, rfl, h, q⟩
  | @ref n a h =>
    simp only [lstOf] at e
    cases q : S[n]? with
    | none => rw [q] at e; cases e
    | some c =>
      obtain ⟨b, hb, hc⟩ := r.cell n c q
      rw [h] at hb; cases hb
      rw [q] at e
      cases c with
      | lst ys =>
        simp at e; subst e
        obtain ⟨vs, e1, e2⟩ := hc
        exact ⟨a, vs, rfl, e1, e2⟩
  | _ => simp [lstOf] at e
theorem seq_of (r : Rp K η μ S H) {d : D} {v : V} {xs : List D} (rv : RV K H η μ d v) (e : seqOf S d = some xs) : ∃ a vs, v = .ref a ∧ (SqL K H a vs ∨ SqT K H a vs) ∧ RVs K H η μ xs vs := by
  cases rv with
  | tup h q => simp [seqOf] at e; subst e; exact ⟨_, _, rfl, .inr h, q⟩
  | scr h q => simp [seqOf] at e; subst e; exact ⟨_, _, rfl, .inl (h.elim (fun ⟨o, z⟩ => .inl (.inr ⟨o, z⟩)) fun z => z H), q⟩
  | lst hm hn h q =>
    obtain ⟨a, vs, e1, e2, e3⟩ := lst_of r (.lst hm hn h q) e
    exact ⟨a, vs, e1, .inl (.inl (.inl e2)), e3⟩
  | ref h =>
    obtain ⟨a, vs, e1, e2, e3⟩ := lst_of r (.ref h) e
    exact ⟨a, vs, e1, .inl (.inl (.inl e2)), e3⟩
  | _ => simp [seqOf, lstOf] at e
/-- a new list, kept or to be changed -/
theorem new_lst (r : Rp K η μ S H) {m : Bool} {ds : List D} {vs : List V} {QD : QE} (rv : RVs K H η μ ds vs) (h : newL m ds S QD) (p : Addr) (hp : H p = none) : Post K η μ H QD (.ref p) (upd H p (.lst vs)) := by
  cases m with
  | true => exact ⟨_, _, _, grow_cell r hp, rp_cell r hp rv, rv_cell r, h⟩
  | false => exact ⟨_, _, _, grow_new r hp, rp_new r hp, rv_new_lst r hp rv, h⟩
theorem new_tup (r : Rp K η μ S H) {ds : List D} {vs : List V} {QD : QE} (rv : RVs K H η μ ds vs) (h : QD (.tup ds) S) (p : Addr) (hp : H p = none) : Post K η μ H QD (.ref p) (upd H p (.tup vs)) :=
  ⟨_, _, _, grow_new r hp, rp_new r hp, rv_new_tup r hp rv, h⟩
theorem stay (r : Rp K η μ S H) {d : D} {v : V} {QD : QE} (rv : RV K H η μ d v) (h : QD d S) : Post K η μ H QD v H := ⟨_, _, _, .refl, r, rv, h⟩
theorem Post.from {μ1 : List Addr} {H1 H' : Hp} {QD : QE} {v : V} (g : Grow μ H μ1 H1) (h : Post K η μ1 H1 QD v H') : Post K η μ H QD v H' :=
  let ⟨d, S', μ', g', r, rv, q⟩ := h
  ⟨d, S', μ', g.trans g', r, rv, q⟩
theorem RV.intI {v : V} {i : Int} (h : RV K H η μ (.int i) v) : v = .int i := by cases h; rfl

/-- an operator by data -/
def BinR (X : Cx) (op : Operator) (r : R2) : Prop := OpR X (binaryOp op) r ∧ ∀ {η μ S H m x y v u QD Q}, Rp X.K η μ S H → RV X.K H η μ x v → RV X.K H η μ y u → binD op m x y S QD → (∀ v H', Post X.K η μ H QD v H' → Q v H') → r v u H Q
theorem rI_of {C : Int → Int → Prop} {g : Int → Int → Int} {x y : D} {v u : V} {QD : QE} {Q : VK} (r : Rp K η μ S H) (rx : RV K H η μ x v) (ry : RV K H η μ y u) (h : i2 x y fun i j => C i j ∧ QD (.int (g i j)) S) (hQ : ∀ v H', Post K η μ H QD v H' → Q v H') :
    L2.rI C (fun i j => .int (g i j)) v u H Q := by
  cases rx <;> cases ry <;> simp only [i2] at h
  exact ⟨_, _, rfl, rfl, h.1, hQ _ _ (stay r (.int _) h.2)⟩
theorem rI0_of {g : Int → Int → Int} {x y : D} {v u : V} {QD : QE} {Q : VK} (r : Rp K η μ S H) (rx : RV K H η μ x v) (ry : RV K H η μ y u) (h : i2 x y fun i j => QD (.int (g i j)) S) (hQ : ∀ v H', Post K η μ H QD v H' → Q v H') :
    L2.rI0 (fun i j => .int (g i j)) v u H Q := by
  cases rx <;> cases ry <;> simp only [i2] at h
  exact ⟨_, _, rfl, rfl, hQ _ _ (stay r (.int _) h)⟩
theorem op_fdivA : OpR X (binaryOp .FloorDiv) (L2.rI (fun _ j => DivOk j) fun i j => .int (i.fdiv j)) := opI fun i j _ _ _ _ _ hc q => floordiv_int hc.1 q (.inl (PyProof.noPylong_of_log2 hc.2))
theorem op_mulA : OpR X (binaryOp .Mult) (L2.rI MulOk fun i j => .int (i * j)) := opI fun _ _ _ _ _ _ _ hc q => mul_int q (hc.elim (fun h => h.ok) fun h => h.ok)
def rCatTD (K : PySem.W.Frag) : R2 := rCatT K
theorem binR : ∀ op, ∃ r, BinR X op r
  | .Add => ⟨_, op_add.or (op_add_str.or (op_catA.or op_cat)), fun {η μ S H m x y v u QD Q} r rx ry h hQ => by
      simp only [binD, addD] at h
      split at h
      · cases rx; cases ry; exact .inl ⟨_, _, rfl, rfl, hQ _ _ (stay r (.int _) h)⟩
      · cases rx; cases ry; exact .inr (.inl ⟨_, _, rfl, rfl, h.1, hQ _ _ (stay r (.str _) h.2)⟩)
      · cases rx with
        | @tup a xs ds h1 q1 =>
          cases ry with
          | @tup b ys es h2 q2 =>
            refine .inr (.inr (.inl ⟨_, _, _, _, rfl, rfl, h1, h2, ?_, ?_, ?_, ?_⟩))
            · rw [← q1.length, ← q2.length]; exact h.1
            · intro z; subst z; cases q1; exact hQ _ _ (stay r (.tup h2 q2) h.2)
            · intro _ z; subst z; cases q2; rw [List.append_nil] at h; exact hQ _ _ (stay r (.tup h1 q1) h.2)
            · intro _ _ p hp; exact hQ _ _ (new_tup r (q1.append q2) h.2 p hp)
      · obtain ⟨a, b, e1, e2, hl, hn⟩ := h
        obtain ⟨p1, v1, rfl, h1, q1⟩ := lst_of r rx e1
        obtain ⟨p2, v2, rfl, h2, q2⟩ := lst_of r ry e2
        exact .inr (.inr (.inr ⟨_, _, _, _, rfl, rfl, h1, h2, by rw [← q1.length, ← q2.length]; exact hl, fun p hp => hQ _ _ (new_lst r (q1.append q2) hn p hp)⟩))⟩
  | .Sub => ⟨_, op_sub, fun r rx ry h hQ => rI0_of r rx ry h hQ⟩
  | .Mult => ⟨_, op_mulA.or op_rep, fun {η μ S H m x y v u QD Q} r rx ry h hQ => by
      simp only [binD, mulD] at h
      split at h
      · cases rx; cases ry; exact .inl ⟨_, _, rfl, rfl, h.1, hQ _ _ (stay r (.int _) h.2)⟩
      · obtain ⟨a, e1, h1, h2, hl, hn⟩ := h
        obtain ⟨p1, v1, rfl, hp1, q1⟩ := lst_of r rx e1
        cases ry
        rename_i k _
        have rep : ∀ n : Nat, RVs X.K H η μ (List.replicate n a).flatten (List.replicate n v1).flatten := fun n => by
          induction n with
          | zero => exact .nil
          | succ n ih => rw [List.replicate_succ, List.replicate_succ, List.flatten_cons, List.flatten_cons]; exact q1.append ih
        exact .inr ⟨_, _, _, rfl, rfl, hp1, h1, h2, by rw [← q1.length]; exact hl, fun p hp => hQ _ _ (new_lst r (rep _) hn p hp)⟩
      · exact h.elim⟩
  | .FloorDiv => ⟨_, op_fdivA, fun r rx ry h hQ => rI_of r rx ry h hQ⟩
  | .Mod => ⟨_, op_modN, fun r rx ry h hQ => rI_of r rx ry h hQ⟩
  | .Pow => ⟨_, op_pow, fun r rx ry h hQ => rI_of r rx ry h hQ⟩
  | .LShift => ⟨_, op_shl, fun r rx ry h hQ => rI_of r rx ry h hQ⟩
  | .RShift => ⟨_, op_shr, fun r rx ry h hQ => rI_of r rx ry h hQ⟩
  | .MatMult => ⟨fun _ _ _ _ => False, fun _ _ _ _ _ _ _ _ _ _ _ _ h => h.elim, fun _ _ _ h _ => h.elim⟩
  | .Div => ⟨fun _ _ _ _ => False, fun _ _ _ _ _ _ _ _ _ _ _ _ h => h.elim, fun _ _ _ h _ => h.elim⟩
  | .BitOr => ⟨fun _ _ _ _ => False, fun _ _ _ _ _ _ _ _ _ _ _ _ h => h.elim, fun _ _ _ h _ => h.elim⟩
  | .BitXor => ⟨fun _ _ _ _ => False, fun _ _ _ _ _ _ _ _ _ _ _ _ h => h.elim, fun _ _ _ h _ => h.elim⟩
  | .BitAnd => ⟨fun _ _ _ _ => False, fun _ _ _ _ _ _ _ _ _ _ _ _ h => h.elim, fun _ _ _ h _ => h.elim⟩
end
end DL

namespace DL
open PySem PySem.Spec PyProof.Rows L2
section
variable {X : Cx} {K : PySem.W.Frag} {η μ : List Addr} {S : DStore} {H : Hp}
mutual
theorem dp_of : ∀ {d : D} {v : V} {p : PyData}, RV K H η μ d v → pur d = some p → Dp K H v p
  | _, _, _, .non, e => by simp [pur] at e; subst e; exact .non
  | _, _, _, .bl b, e => by simp [pur] at e; subst e; exact .bl b
  | _, _, _, .int b, e => by simp [pur] at e; subst e; exact .int b
  | _, _, _, .str b, e => by simp [pur] at e; subst e; exact .str b
  | _, _, _, .tup h q, e => by
    simp only [pur, Option.map_eq_some_iff] at e
    obtain ⟨ps, e1, rfl⟩ := e
    exact .tup h (dps_of q e1)
  | _, _, _, .lst hm hn h q, e => by
    simp only [pur, Option.map_eq_some_iff] at e
    obtain ⟨ps, e1, rfl⟩ := e
    exact .lst (.inl (.inl h)) (dps_of q e1)
  | _, _, _, .scr _ _, e => by simp [pur] at e
  | _, _, _, .ref _, e => by simp [pur] at e
theorem dps_of : ∀ {ds : List D} {vs : List V} {ps : List PyData}, RVs K H η μ ds vs → purs ds = some ps → DpAll K H vs ps
  | _, _, _, .nil, e => by simp [purs] at e; subst e; exact .nil
  | _, _, _, .cons h q, e => by
    simp only [purs, Option.bind_eq_some_iff, Option.map_eq_some_iff] at e
    obtain ⟨p, e1, ps, e2, rfl⟩ := e
    exact .cons (dp_of h e1) (dps_of q e2)
end
theorem dpS_of (r : Rp K η μ S H) {d : D} {v : V} {p : PyData} (rv : RV K H η μ d v) (e : purS S d = some p) : Dp K H v p := by
  cases rv with
  | @ref n a h =>
    simp only [purS, Option.map_eq_some_iff, Option.bind_eq_some_iff] at e
    obtain ⟨ps, ⟨xs, e1, e2⟩, rfl⟩ := e
    obtain ⟨b, vs, e3, e4, q⟩ := lst_of r (.ref h) e1
    cases e3
    exact .lst (.inl (.inl e4)) (dps_of q e2)
  | non => exact dp_of (η := η) (μ := μ) .non e
  | bl b => exact dp_of (η := η) (μ := μ) (.bl b) e
  | int b => exact dp_of (η := η) (μ := μ) (.int b) e
  | str b => exact dp_of (η := η) (μ := μ) (.str b) e
  | tup h q => exact dp_of (η := η) (μ := μ) (.tup h q) e
  | lst hm hn h q => exact dp_of (.lst hm hn h q) e
  | scr h q => exact dp_of (η := η) (μ := μ) (.scr h q) e
theorem flat_of {d : D} {v : V} (rv : RV K H η μ d v) (f : flatD d = true) : v = toV d ∧ flatV v = true := by
  cases rv <;> first | exact ⟨rfl, rfl⟩ | simp [flatD] at f
theorem flats_of : ∀ {ds : List D} {vs : List V}, RVs K H η μ ds vs → ds.all flatD = true → vs = ds.map toV ∧ vs.all flatV = true
  | _, _, .nil, _ => ⟨rfl, rfl⟩
  | _, _, .cons h q, e => by
    simp only [List.all_cons, Bool.and_eq_true] at e
    obtain ⟨a, b⟩ := flat_of h e.1
    obtain ⟨c, d⟩ := flats_of q e.2
    refine ⟨by rw [List.map_cons, ← a, ← c], ?_⟩
    simp only [List.all_cons, b, d, Bool.and_self]
theorem ints_of : ∀ {ds : List D} {vs : List V} {is : List Int}, RVs K H η μ ds vs → ds.mapM inOf = some is → vs = is.map V.int
  | _, _, _, .nil, e => by simp at e; subst e; rfl
  | _, _, _, .cons h q, e => by
    simp only [List.mapM_cons, Option.bind_eq_bind, Option.bind_eq_some_iff] at e
    obtain ⟨i, e1, is, e2, e3⟩ := e
    cases e3
    cases h <;> simp [inOf] at e1
    subst e1
    rw [ints_of q e2]; rfl
theorem bls_of : ∀ {ds : List D} {vs : List V} {is : List Bool}, RVs K H η μ ds vs → ds.mapM blOf = some is → vs = is.map V.bl
  | _, _, _, .nil, e => by simp at e; subst e; rfl
  | _, _, _, .cons h q, e => by
    simp only [List.mapM_cons, Option.bind_eq_bind, Option.bind_eq_some_iff] at e
    obtain ⟨i, e1, is, e2, e3⟩ := e
    cases e3
    cases h <;> simp [blOf] at e1
    subst e1
    rw [bls_of q e2]; rfl

/-! ### comparisons -/
def CmpR (X : Cx) (op : CmpOp) (r : R2) : Prop := OpR X (compareOp op) r ∧ ∀ {η μ S H x y v u QB} {Q : VK}, Rp X.K η μ S H → RV X.K H η μ x v → RV X.K H η μ y u → cmpD op S x y QB → (∀ b, QB b → Q (.bl b) H) → r v u H Q
theorem cI_of {g : Int → Int → Bool} {x y : D} {v u : V} {QB : Bool → Prop} {Q : VK} (rx : RV K H η μ x v) (ry : RV K H η μ y u) (h : i2 x y fun i j => QB (g i j)) (hQ : ∀ b, QB b → Q (.bl b) H) : L2.rI0 (fun i j => .bl (g i j)) v u H Q := by
  cases rx <;> cases ry <;> simp only [i2] at h
  exact ⟨_, _, rfl, rfl, hQ _ h⟩
theorem dec_int (i j : Int) : decide (V.int i = V.int j) = decide (i = j) := by by_cases h : i = j <;> simp [h]
theorem dec_bl (i j : Bool) : decide (V.bl i = V.bl j) = decide (i = j) := by by_cases h : i = j <;> simp [h]
theorem dec_str (i j : Str) : decide (V.str i = V.str j) = decide (i = j) := by by_cases h : i = j <;> simp [h]
theorem eq_of_data (r : Rp K η μ S H) {x y : D} {v u : V} {QB : Bool → Prop} {Q : VK} (rx : RV K H η μ x v) (ry : RV K H η μ y u) (h : eqD S x y QB) (hQ : ∀ b, QB b → Q (.bl b) H) :
    rEq v u H Q ∨ rEqD K v u H Q := by
  simp only [eqD] at h
  split at h
  · cases rx; cases ry; exact .inl ⟨rfl, hQ _ (by rw [dec_int]; exact h)⟩
  · cases rx; cases ry; exact .inl ⟨rfl, hQ _ (by rw [dec_bl]; exact h)⟩
  · cases rx; cases ry; exact .inl ⟨rfl, hQ _ (by rw [dec_str]; exact h)⟩
  · obtain ⟨p, q, e1, e2, s1, s2, h⟩ := h
    exact .inr ⟨p, q, dpS_of r rx e1, dpS_of r ry e2, s1, s2, hQ _ h⟩
theorem ne_of_data (r : Rp K η μ S H) {x y : D} {v u : V} {QB : Bool → Prop} {Q : VK} (rx : RV K H η μ x v) (ry : RV K H η μ y u) (h : eqD S x y fun b => QB (!b)) (hQ : ∀ b, QB b → Q (.bl b) H) :
    rNe v u H Q ∨ rNeD K v u H Q := by
  simp only [eqD] at h
  split at h
  · cases rx; cases ry; exact .inl ⟨rfl, hQ _ (by rw [dec_int]; exact h)⟩
  · cases rx; cases ry; exact .inl ⟨rfl, hQ _ (by rw [dec_bl]; exact h)⟩
  · cases rx; cases ry; exact .inl ⟨rfl, hQ _ (by rw [dec_str]; exact h)⟩
  · obtain ⟨p, q, e1, e2, s1, s2, h⟩ := h
    exact .inr ⟨p, q, dpS_of r rx e1, dpS_of r ry e2, s1, s2, hQ _ h⟩
theorem in_of (r : Rp K η μ S H) {neg : Bool} {x y : D} {v u : V} {QB : Bool → Prop} {Q : VK} (rx : RV K H η μ x v) (ry : RV K H η μ y u) (h : inD S x y fun b => QB (if neg then !b else b)) (hQ : ∀ b, QB b → Q (.bl b) H) : rIn K neg v u H Q := by
  obtain ⟨xs, e, f, fs, q⟩ := h
  obtain ⟨a, vs, rfl, hq, qs⟩ := seq_of r ry e
  obtain ⟨e1, f1⟩ := flat_of rx f
  obtain ⟨e2, f2⟩ := flats_of qs fs
  exact ⟨a, vs, rfl, hq, f1, f2, hQ _ (by rw [e1, e2]; exact q)⟩
theorem non_iff {x : D} {v : V} (rx : RV K H η μ x v) : decide (v = .non) = isNon x := by
  cases rx <;> simp [isNon]
theorem cmpR (hu : X.A.units + 64 < cLine) : ∀ op, ∃ r, CmpR X op r
  | .Lt => ⟨_, op_lt, fun r rx ry h hQ => cI_of rx ry h hQ⟩
  | .LtE => ⟨_, op_le, fun r rx ry h hQ => cI_of rx ry h hQ⟩
  | .Gt => ⟨_, op_gt, fun r rx ry h hQ => cI_of rx ry h hQ⟩
  | .GtE => ⟨_, op_ge, fun r rx ry h hQ => cI_of rx ry h hQ⟩
  | .Eq => ⟨_, op_eq.or (op_eqD hu), fun r rx ry h hQ => eq_of_data r rx ry h hQ⟩
  | .NotEq => ⟨_, op_ne.or (op_neD hu), fun r rx ry h hQ => ne_of_data r rx ry h hQ⟩
  | .In => ⟨_, op_in_seq, fun r rx ry h hQ => in_of (neg := false) r rx ry h hQ⟩
  | .NotIn => ⟨_, op_notIn_seq, fun r rx ry h hQ => in_of (neg := true) r rx ry h hQ⟩
  | .Is => ⟨_, op_isN.or op_isBl, fun {η μ S H x y v u QB Q} r rx ry h hQ => by
      simp only [cmpD, isD] at h
      split at h
      · cases ry; exact .inl ⟨rfl, hQ _ (by rw [non_iff rx]; exact h)⟩
      · obtain ⟨c, rfl, h⟩ := h
        cases ry; cases rx; exact .inr ⟨_, _, rfl, rfl, hQ _ h⟩
      · exact h.elim⟩
  | .IsNot => ⟨_, op_notN.or op_notBl, fun {η μ S H x y v u QB Q} r rx ry h hQ => by
      simp only [cmpD, isD] at h
      split at h
      · cases ry; exact .inl ⟨rfl, hQ _ (by rw [non_iff rx]; exact h)⟩
      · obtain ⟨c, rfl, h⟩ := h
        cases ry; cases rx; exact .inr ⟨_, _, rfl, rfl, hQ _ h⟩
      · exact h.elim⟩

/-! ### truth, items, slices -/
theorem tru_of (r : Rp K η μ S H) {x : D} {v : V} {QB : Bool → Prop} (rx : RV K H η μ x v) (h : truD S x QB) : ∃ k, TruV K v H k ∧ QB k := by
  simp only [truD] at h
  split at h
  · cases rx; exact ⟨false, rfl, h⟩
  · cases rx; exact ⟨_, rfl, h⟩
  · cases rx; exact ⟨_, rfl, h⟩
  · cases rx; exact ⟨_, ⟨h.1, rfl⟩, h.2⟩
  · obtain ⟨xs, e, q⟩ := h
    obtain ⟨a, vs, rfl, hq, qs⟩ := seq_of r rx e
    have el : xs.isEmpty = vs.isEmpty := by
      cases qs <;> rfl
    rw [el] at q
    rcases hq with hq | hq
    · exact ⟨_, .inl ⟨vs, hq, rfl⟩, q⟩
    · exact ⟨_, .inr (.inl ⟨vs, hq, rfl⟩), q⟩
theorem atI_of {xs : List D} {vs : List V} {i : Int} {d : D} (q : RVs K H η μ xs vs) (e : atI xs i = some d) : ∃ v, atI vs i = some v ∧ RV K H η μ d v := by
  unfold atI at e ⊢
  rw [← q.length]
  cases h : ixN xs.length i with
  | none => rw [h] at e; cases e
  | some j =>
    rw [h] at e
    exact q.get e
theorem ix_of (r : Rp K η μ S H) {x y : D} {v u : V} {QD : D → Prop} {Q : VK} (rx : RV K H η μ x v) (ry : RV K H η μ y u) (h : ixD S x y QD) (hQ : ∀ d v, RV K H η μ d v → QD d → Q v H) : rIx K v u H Q := by
  simp only [ixD] at h
  split at h
  · split at h
    · obtain ⟨c, h1, h2, h3⟩ := h
      cases rx; cases ry
      exact .inr (.inr ⟨_, _, c, rfl, rfl, h1, h2, hQ _ _ (.str _) h3⟩)
    · obtain ⟨xs, d, h1, h2, h3⟩ := h
      cases ry
      obtain ⟨a, vs, rfl, hq, qs⟩ := seq_of r rx h1
      obtain ⟨w, e, rw'⟩ := atI_of qs h2
      rcases hq with hq | hq
      · exact .inl ⟨_, _, _, w, rfl, rfl, hq, e, hQ _ _ rw' h3⟩
      · exact .inr (.inl ⟨_, _, _, w, rfl, rfl, hq, e, hQ _ _ rw' h3⟩)
  · exact h.elim
theorem cut_of {xs : List D} {vs : List V} (q : RVs K H η μ xs vs) (lo hi : Option Int) : RVs K H η μ (cutD xs lo hi) (cutV vs lo hi) := by
  unfold cutD cutV
  rw [← q.length]
  exact (q.drop _).take _
end
end DL

namespace DL
open PySem PySem.Spec PyProof.Rows L2
/-! ### defs, where no text of a thing is being made around (so repr is plain) -/
/-- the def at f keeps sp, called from where no repr is under way -/
structure FnG (P : Program) (w : World) (K : PySem.W.Frag) (mg : Str → Option Value) (base : Heap) (k : Nat) (f : Addr) (fd : FuncData) (ps : List Str) (sp : List V → Hp → VK → Prop) : Prop where
  len : ∀ vs H Q, sp vs H Q → vs.length = ps.length
  run : ∀ (A : Around) (outer : List Env) (s : Shared) (H : Hp) (args : Args) (us : List Value) (vs : List V) (Q : VK), A.guards = some [] → Room k A → Env0 P w K mg base A outer s H →
    BindsTo s fd args (ps.zip us) → Vals vs us → sp vs H Q → codeAny (model P w) A (.call (.ref f) args) (CR L2.CX0 outer P w H s Q L2.E0) s
section
variable {P : Program} {w : World} {K : PySem.W.Frag} {mg : Str → Option Value} {base : Heap} {k j : Nat} {f : Addr} {fd : FuncData} {ps : List Str} {sp sp' : List V → Hp → VK → Prop}
theorem FnG.mono (F : FnG P w K mg base j f fd ps sp) (h : j ≤ k) : FnG P w K mg base k f fd ps sp :=
  ⟨F.len, fun A o s H args us vs Q hg hr => F.run A o s H args us vs Q hg (hr.mono h)⟩
theorem FnG.imp (F : FnG P w K mg base k f fd ps sp) (h : ∀ vs H Q, sp' vs H Q → sp vs H Q) : FnG P w K mg base k f fd ps sp' :=
  ⟨fun vs H Q q => F.len vs H Q (h _ _ _ q), fun A o s H args us vs Q hg hr he hb hv hs => F.run A o s H args us vs Q hg hr he hb hv (h _ _ _ hs)⟩
end
/-- the context of a def's body -/
abbrev cxG (P : Program) (w : World) (K : PySem.W.Frag) (mg : Str → Option Value) (base : Heap) (N : List Str) (qual : Str) (st : Stmt) (f : Addr) (cdv : Value) (A : Around) (outer : List Env) (s : Shared) (H : Hp) : Cx :=
  (cxOf L2.CX0 P w K mg base N qual (L2.defScope st) f cdv A outer s H L2.E0).nox
theorem fnG_of {P : Program} {w : World} {K : PySem.W.Frag} {mg : Str → Option Value} {base : Heap} {x qual : Str} {st : Stmt} {f : Addr} {fd : FuncData} {N ps : List Str} {k : Nat} {sp : List V → Hp → VK → Prop}
    (F : L2.Fun K x qual st f fd) (Sc : FnScope N ps (L2.defScope st)) (len : ∀ vs H Q, sp vs H Q → vs.length = ps.length)
    (body : ∀ (cdv : Value) (A : Around) (outer : List Env) (s : Shared) (H : Hp) (vs : List V) (Q : VK), A.guards = some [] → Room k (A.deeper (envOfC qual (L2.defScope st) s.heap.objs.size f cdv)) → sp vs H Q →
      ∃ t, PSs (cxG P w K mg base N qual st f cdv A outer s H) (L2.defBody st) t ∧ t { nx := fun _ H' => Q .non H', rt := Q } (start N vs) H) :
    FnG P w K mg base (k + 1) f fd ps sp := by
  obtain ⟨oc, od, kV, doc, pm, an, cdv, ct, osl, efd, lk, hcd⟩ := F.ex
  subst efd
  constructor
  · exact len
  intro A outer s H args us vs Q hg room e0 hbt rvs hq
  have hlen := len vs H Q hq
  have keepB := fun b o e => (e0.bs b o e).1
  have kin : K.In s.heap := e0.mod.kin.keeps keepB
  have noLim : s.heap.NoLimit := e0.mod.nolimit.keeps keepB
  refine codeAny_call_function room.depth (kin _ _ lk) rfl Sc.co Sc.gen rfl (PySem.W.codeRec_of kin hcd) (hbt _ _ _ _ ?_)
  refine wpAny_newFunctionEnv_cells Sc.kind (fun y hy => ?kinds) fun env he s1 new => ?rest
  case kinds =>
    obtain ⟨nm, val⟩ := y
    exact (Sc.par nm (List.of_mem_zip hy).1).imp id fun q => ⟨q, PySem.W.cellsFrom_some _ _ _ (.inl q)⟩
  case rest =>
    subst he
    obtain ⟨t, der, ans⟩ := body cdv A outer s H vs Q hg (room.deeper _) hq
    have start0 := inv_start (CX := L2.CX0) (E := L2.E0) Sc room.hd e0 hlen rvs new
    refine ⟨noLim.keeps new.toInCall.keep, codeAny_func ?_⟩
    refine wpAny_mono ((PSs.nox der).run [] s1 (start N vs) H _ start0 ans) (fun fl s' out => ?_) fun e s' out => out
    match fl, out with
    | .ret u, ⟨v, σ', H', J, rv, q⟩ => exact ⟨v, H', J.os, J.bare, J.base, J.hok, rv, q⟩
    | .next, ⟨σ', H', J, q⟩ => exact ⟨.non, H', J.os, J.bare, J.base, J.hok, rfl, q⟩
    | .brk, ⟨_, _, _, q⟩ => exact q.elim
    | .cont, ⟨_, _, _, q⟩ => exact q.elim

section
variable {X : Cx} {k : Nat} {f : Addr} {fd : FuncData} {ps ks : List Str} {sp : List V → Hp → VK → Prop} {x : Str} {p pos : Pos} {e : Expr} {es : List Expr} {kws : List Keyword} {t tk : TA} {g : List Value → List Value → List Value} {gV : List V → List V → List V}
theorem runG {pins : List (Addr × Obj)} {σ : L2.St} {H : Hp} {s : Shared} {Q : VK} {us ws : List Value} {vs zs : List V} (F : FnG X.prog X.w X.K X.mg X.base k f fd ps sp) (hr : Room k X.A) (hG : X.A.guards = some []) (hb : KBinds X.K fd ps ks g gV)
    (I : Inv X pins σ H s) (r : Vals vs us) (rz : Vals zs ws) (h : sp (gV vs zs) H Q) : wpAny (model X.prog X.w) X.A (call (.ref f) us (ks.zip ws)) (EP X pins σ Q) X.xe s := by
  have both := hb.rel r rz
  refine wpAny_call (codeAny_mono (F.run X.A X.stack s H ⟨us, ks.zip ws⟩ _ _ Q hG hr I.env0 (hb.to s us ws I.kIn ?_) both h) fun res s' hq => ?_)
  · exact both.length.symm.trans (F.len _ _ _ h)
  · match res, hq with
    | .ok (.ret u), hq => exact I.after hq
    | .ok .next, hq => exact hq.elim
    | .ok .brk, hq => exact hq.elim
    | .ok .cont, hq => exact hq.elim
    | .error er, hq => exact hq.elim
theorem pe_callG (F : FnG X.prog X.w X.K X.mg X.base k f fd ps sp) (hr : Room k X.A) (hG : X.A.guards = some []) (hg : Gl X x) (hm : X.mg x = some (.ref f)) (hk : PySem.W.keepIn X.K (.ref f) = true) (hb : KBinds X.K fd ps ks g gV)
    (ha : PA X (e :: es) t) (hkw : PK X kws tk) (hall : (backToKw pos (keywordEach kws X.env)).all (·.1.isSome) = true) (hks : (backToKw pos (keywordEach kws X.env)).filterMap (·.1) = ks)
    (hdb : (x == ("__debug__" : Str)) = false) (he : starEach (e :: es) X.env = (false, eval e X.env) :: starEach es X.env)
    (hpl : ((backTo pos (starEach (e :: es) X.env)).any (·.1) || (backToKw pos (keywordEach kws X.env)).any (·.1.isNone)) = false) :
    PE X (.Call (.Name x p) (e :: es) kws pos) (fun σ H Q => t σ H fun vs H1 => tk σ H1 fun zs H2 => sp (gV vs zs) H2 Q) := by
  constructor
  intro pins s σ H Q I h
  refine wpAny_Call_Name_kw (ld_glob I hg hm ?_ hdb)
  refine PySem.W.callWith_KW (h₀ := X.base) I.ok.mod.kin hk hall (thn (ha.run pos pins s σ H _ I h) fun us s1 out1 => ?_) hpl he
  obtain ⟨vs, H1, I1, rel1, q1⟩ := out1
  refine thn (hkw.run pos pins s1 σ H1 _ I1 q1) fun ws s2 out2 => ?_
  obtain ⟨zs, H2, I2, rel2, q2⟩ := out2
  rw [hks]
  exact ⟨I2.kIn, runG F hr hG hb I2 rel1 rel2 q2⟩
theorem pe_callG0 (F : FnG X.prog X.w X.K X.mg X.base k f fd ps sp) (hr : Room k X.A) (hG : X.A.guards = some []) (hg : Gl X x) (hm : X.mg x = some (.ref f)) (hk : PySem.W.keepIn X.K (.ref f) = true) (hb : KBinds X.K fd ps ks g gV)
    (hkw : PK X kws tk) (hall : (backToKw pos (keywordEach kws X.env)).all (·.1.isSome) = true) (hks : (backToKw pos (keywordEach kws X.env)).filterMap (·.1) = ks)
    (hdb : (x == ("__debug__" : Str)) = false) (hpl : ((backTo pos (starEach [] X.env)).any (·.1) || (backToKw pos (keywordEach kws X.env)).any (·.1.isNone)) = false) :
    PE X (.Call (.Name x p) [] kws pos) (fun σ H Q => tk σ H fun zs H2 => sp (gV [] zs) H2 Q) := by
  constructor
  intro pins s σ H Q I h
  refine wpAny_Call_Name_kw (ld_glob I hg hm ?_ hdb)
  refine PySem.W.callWith_KW0 (h₀ := X.base) I.ok.mod.kin hk hall (thn (hkw.run pos pins s σ H _ I h) fun ws s2 out2 => ?_) hpl
  obtain ⟨zs, H2, I2, rel2, q2⟩ := out2
  rw [hks]
  exact ⟨I2.kIn, runG (us := []) F hr hG hb I2 .nil rel2 q2⟩
/-- repr of data -/
theorem call_reprD (hG : X.A.guards = some []) (hu : X.A.units + 64 < cLine) : CallR X (.builtin "repr") (fun xs H Q => ∃ v d, xs = [v] ∧ Dp X.K H v d ∧ RepOk d ∧ Q (.str d.shown) H) := by
  intro pins s σ H xs us Q I r h
  obtain ⟨v, d, rfl, hd, ok, q⟩ := h
  obtain ⟨u, rfl, ru⟩ := vals1 r
  obtain ⟨as, rd⟩ := Dp.reads I d v u hd ru
  have dep := ok.dp
  cases hd with
  | int i => obtain ⟨t, rfl⟩ := ru; exact PySem.P.repr_of_int (by have := ok.sh; simpa [PyData.showable] using this) ⟨.str _, H, I.tok _, ⟨_, rfl⟩, q⟩
  | lst h1 h2 =>
    cases ru
    refine repr_of_reads' rd ok.sh (fun z => absurd (ok.nd.symm.trans z) (by decide)) hG (by omega) (fun _ _ e => e) (fun h' t tk hk => ?_) ok.sz
    exact ⟨.str _, H, I.kept hk, ⟨_, rfl⟩, q⟩
  | tup h1 h2 =>
    cases ru
    refine repr_of_reads' rd ok.sh (fun z => absurd (ok.nd.symm.trans z) (by decide)) hG (by omega) (fun _ _ e => e) (fun h' t tk hk => ?_) ok.sz
    exact ⟨.str _, H, I.kept hk, ⟨_, rfl⟩, q⟩
  | non => cases ru; exact PySem.P.repr_of_none ⟨.str _, H, I.tok _, ⟨_, rfl⟩, q⟩
  | bl b => cases ru; exact PySem.P.repr_of_bool ⟨.str _, H, I.tok _, ⟨_, rfl⟩, (by cases b <;> exact q)⟩
  | str y => obtain ⟨t, rfl⟩ := ru; exact PySem.P.repr_of_str ⟨.str _, H, I.tok _, ⟨_, rfl⟩, q⟩ ok.sz
end
end DL

namespace DL
open PySem PySem.Spec PyProof.Rows L2
def BI.name : BI → Str
  | .len => "len" | .abs => "abs" | .min2 => "min" | .max2 => "max" | .int1 => "int" | .tuple1 => "tuple" | .list1 => "list" | .all1 => "all" | .any1 => "any" | .repr1 => "repr" | .sum1 => "sum" | .min1 => "min" | .max1 => "max" | .sorted1 => "sorted"
def BI.val : BI → Value
  | .len => .builtin "len" | .abs => .builtin "abs" | .min2 => .builtin "min" | .max2 => .builtin "max" | .int1 => .type "int" | .tuple1 => .type "tuple" | .list1 => .type "list" | .all1 => .builtin "all" | .any1 => .builtin "any"
  | .repr1 => .builtin "repr" | .sum1 => .builtin "sum" | .min1 => .builtin "min" | .max1 => .builtin "max" | .sorted1 => .builtin "sorted"
theorem BI.boot : ∀ b : BI, bootBuiltins b.name = some b.val := by
  intro b; cases b <;> decide +kernel
theorem BI.nm : ∀ b : BI, b.name ≠ "__name__" ∧ (b.name == ("__debug__" : Str)) = false := by
  intro b; cases b <;> exact ⟨by decide +kernel, by decide +kernel⟩
section
variable {X : Cx} {K : PySem.W.Frag} {η μ : List Addr} {S : DStore} {H : Hp}
def BiR (X : Cx) (b : BI) (r : List V → Hp → VK → Prop) : Prop := CallR X b.val r ∧ ∀ {η μ S H m ds vs QD Q}, Rp X.K η μ S H → RVs X.K H η μ ds vs → biD b m ds S QD → (∀ v H', Post X.K η μ H QD v H' → Q v H') → r vs H Q
theorem rvs1 {d : D} {vs : List V} (h : RVs K H η μ [d] vs) : ∃ v, vs = [v] ∧ RV K H η μ d v := by
  cases h with
  | cons a b => cases b; exact ⟨_, rfl, a⟩
theorem rvs2 {d e : D} {vs : List V} (h : RVs K H η μ [d, e] vs) : ∃ v w, vs = [v, w] ∧ RV K H η μ d v ∧ RV K H η μ e w := by
  cases h with
  | cons a b => obtain ⟨w, rfl, c⟩ := rvs1 b; exact ⟨_, _, rfl, a, c⟩
theorem noR : BiR X b (fun _ _ _ => False) → True := fun _ => trivial
theorem biR (hc : X.calm = true) (hG : X.A.guards = some []) (hu : X.A.units + 64 < cLine) : ∀ b, ∃ r, BiR X b r
  | .len => ⟨_, call_len, fun {η μ S H m ds vs QD Q} r rv h hQ => by
      unfold biD at h
      split at h <;> first | exact h.elim | skip
      all_goals try (rename_i e1; cases e1)
      · obtain ⟨v, rfl, a⟩ := rvs1 rv; cases a
        exact ⟨_, _, rfl, ⟨h.1, rfl⟩, hQ _ _ (stay r (.int _) h.2)⟩
      · obtain ⟨v, rfl, a⟩ := rvs1 rv
        obtain ⟨xs, e, q⟩ := h
        obtain ⟨b, vs, rfl, hq, qs⟩ := seq_of r a e
        rw [qs.length] at q
        rcases hq with hq | hq
        · exact ⟨_, _, rfl, .inl ⟨_, hq, rfl⟩, hQ _ _ (stay r (.int _) q)⟩
        · exact ⟨_, _, rfl, .inr ⟨_, hq, rfl⟩, hQ _ _ (stay r (.int _) q)⟩⟩
  | .abs => ⟨_, call_abs, fun {η μ S H m ds vs QD Q} r rv h hQ => by
      unfold biD at h
      split at h <;> first | exact h.elim | skip
      all_goals try (rename_i e1; cases e1)
      · obtain ⟨v, rfl, a⟩ := rvs1 rv; cases a
        exact ⟨_, rfl, hQ _ _ (stay r (.int _) h)⟩⟩
  | .min2 => ⟨_, call_min2 hc, fun {η μ S H m ds vs QD Q} r rv h hQ => by
      unfold biD at h
      split at h <;> first | exact h.elim | skip
      all_goals try (rename_i e1; cases e1)
      · obtain ⟨v, w, rfl, a, b⟩ := rvs2 rv; cases a; cases b
        exact ⟨_, _, rfl, hQ _ _ (stay r (.int _) h)⟩⟩
  | .max2 => ⟨_, call_max2 hc, fun {η μ S H m ds vs QD Q} r rv h hQ => by
      unfold biD at h
      split at h <;> first | exact h.elim | skip
      all_goals try (rename_i e1; cases e1)
      · obtain ⟨v, w, rfl, a, b⟩ := rvs2 rv; cases a; cases b
        exact ⟨_, _, rfl, hQ _ _ (stay r (.int _) h)⟩⟩
  | .int1 => ⟨_, call_int1, fun {η μ S H m ds vs QD Q} r rv h hQ => by
      unfold biD at h
      split at h <;> first | exact h.elim | skip
      all_goals try (rename_i e1; cases e1)
      · obtain ⟨v, rfl, a⟩ := rvs1 rv; cases a
        exact .inl ⟨_, rfl, hQ _ _ (stay r (.int _) h)⟩
      · obtain ⟨v, rfl, a⟩ := rvs1 rv; cases a
        exact .inr ⟨_, rfl, hQ _ _ (stay r (.int _) h)⟩⟩
  | .tuple1 => ⟨_, call_tuple_of, fun {η μ S H m ds vs QD Q} r rv h hQ => by
      unfold biD at h
      split at h <;> first | exact h.elim | skip
      all_goals try (rename_i e1; cases e1)
      · obtain ⟨v, rfl, a⟩ := rvs1 rv
        cases a with
        | tup h1 q1 => exact ⟨_, _, rfl, .inr ⟨h1, hQ _ _ (stay r (.tup h1 q1) h)⟩⟩
      · obtain ⟨v, rfl, a⟩ := rvs1 rv
        obtain ⟨xs, e, q⟩ := h
        obtain ⟨b, vs, rfl, hq, qs⟩ := lst_of r a e
        exact ⟨_, _, rfl, .inl ⟨.inl (.inl hq), fun p hp => hQ _ _ (new_tup r qs q p hp)⟩⟩⟩
  | .list1 => ⟨_, call_list_of, fun {η μ S H m ds vs QD Q} r rv h hQ => by
      unfold biD at h
      split at h <;> first | exact h.elim | skip
      all_goals try (rename_i e1; cases e1)
      · obtain ⟨v, rfl, a⟩ := rvs1 rv
        obtain ⟨xs, e, q⟩ := h
        obtain ⟨b, vs, rfl, hq, qs⟩ := seq_of r a e
        exact ⟨_, _, rfl, hq, fun p hp => hQ _ _ (new_lst r qs q p hp)⟩⟩
  | .all1 => ⟨_, cr_all hc, fun {η μ S H m ds vs QD Q} r rv h hQ => by
      unfold biD at h
      split at h <;> first | exact h.elim | skip
      all_goals try (rename_i e1; cases e1)
      · obtain ⟨v, rfl, a⟩ := rvs1 rv
        obtain ⟨xs, bs, e, eb, q⟩ := h
        obtain ⟨b, vs, rfl, hq, qs⟩ := lst_of r a e
        exact ⟨_, bs, rfl, .inl (.inl (by rw [← bls_of qs eb]; exact hq)), hQ _ _ (stay r (.bl _) q)⟩⟩
  | .any1 => ⟨_, cr_any hc, fun {η μ S H m ds vs QD Q} r rv h hQ => by
      unfold biD at h
      split at h <;> first | exact h.elim | skip
      all_goals try (rename_i e1; cases e1)
      · obtain ⟨v, rfl, a⟩ := rvs1 rv
        obtain ⟨xs, bs, e, eb, q⟩ := h
        obtain ⟨b, vs, rfl, hq, qs⟩ := lst_of r a e
        exact ⟨_, bs, rfl, .inl (.inl (by rw [← bls_of qs eb]; exact hq)), hQ _ _ (stay r (.bl _) q)⟩⟩
  | .sum1 => ⟨_, cr_sum hc, fun {η μ S H m ds vs QD Q} r rv h hQ => by
      unfold biD at h
      split at h <;> first | exact h.elim | skip
      all_goals try (rename_i e1; cases e1)
      · obtain ⟨v, rfl, a⟩ := rvs1 rv
        obtain ⟨xs, bs, e, eb, q⟩ := h
        obtain ⟨b, vs, rfl, hq, qs⟩ := lst_of r a e
        exact ⟨_, bs, rfl, .inl (.inl (by rw [← ints_of qs eb]; exact hq)), hQ _ _ (stay r (.int _) q)⟩⟩
  | .repr1 => ⟨_, call_reprD hG hu, fun {η μ S H m ds vs QD Q} r rv h hQ => by
      unfold biD at h
      split at h <;> first | exact h.elim | skip
      all_goals try (rename_i e1; cases e1)
      · obtain ⟨v, rfl, a⟩ := rvs1 rv
        obtain ⟨p, e, ok, q⟩ := h
        exact ⟨_, p, rfl, dpS_of r a e, ok, hQ _ _ (stay r (.str _) q)⟩⟩
  | .min1 => ⟨fun _ _ _ => False, fun _ _ _ _ _ _ _ _ _ h => h.elim, fun {η μ S H m ds vs QD Q} r rv h hQ => by
      unfold biD at h
      split at h <;> first | exact h.elim | cases ‹BI.min1 = _›⟩
  | .max1 => ⟨fun _ _ _ => False, fun _ _ _ _ _ _ _ _ _ h => h.elim, fun {η μ S H m ds vs QD Q} r rv h hQ => by
      unfold biD at h
      split at h <;> first | exact h.elim | cases ‹BI.max1 = _›⟩
  | .sorted1 => ⟨fun _ _ _ => False, fun _ _ _ _ _ _ _ _ _ h => h.elim, fun {η μ S H m ds vs QD Q} r rv h hQ => by
      unfold biD at h
      split at h <;> first | exact h.elim | cases ‹BI.sorted1 = _›⟩
end
end DL

namespace DL
open PySem PySem.Spec PyProof.Rows L2
/-! ### walks -/
section
variable {X : Cx} {K : PySem.W.Frag} {η μ : List Addr} {S : DStore} {H : Hp} {tg : Expr}
theorem it_end {pins : List (Addr × Obj)} {σ : L2.St} {H1 : Hp} {s1 : Shared} (I1 : Inv X pins σ H1 s1) : ∀ b ∈ [s1.heap.objs.size], FpOk X pins H1 b := by
  intro b hb
  rw [List.mem_singleton.mp hb]
  exact I1.fpOk (Nat.le_refl _) (I1.hok.fresh (Nat.le_refl _))
theorem it_lst {pins : List (Addr × Obj)} {σ : L2.St} {H1 : Hp} {s1 : Shared} {R : It → Hp → Prop} {E : Value → Shared → Prop} {a : Addr} {xs : List V} (I1 : Inv X pins σ H1 s1) (hq : SqL X.K H1 a xs) (q : R (Itl X.K a) H1) :
    wpAny (model X.prog X.w) X.A (pyIter (.ref a)) (PIE X pins σ tg R) E s1 := by
  obtain ⟨its, rv, p, hz⟩ := I1.list hq
  refine wpAny_pyIter_list p.isList ⟨_, [s1.heap.objs.size], _, _, H1, rfl, ?_, turn_list a _, ?_, it_end I1, q⟩
  · exact I1.kept (t' := s1.toks) fun _ _ e => Heap.get?_push_of_some _ e
  · exact ⟨_, Heap.get?_push_size _ rfl, rfl, rfl⟩
theorem it_tup {pins : List (Addr × Obj)} {σ : L2.St} {H1 : Hp} {s1 : Shared} {R : It → Hp → Prop} {E : Value → Shared → Prop} {a : Addr} {xs : List V} (I1 : Inv X pins σ H1 s1) (hq : SqT X.K H1 a xs) (q : R (Itt X.K a) H1) :
    wpAny (model X.prog X.w) X.A (pyIter (.ref a)) (PIE X pins σ tg R) E s1 := by
  obtain ⟨its, rv, p, hz⟩ := I1.tuple hq
  refine wpAny_pyIter_tuple (show s1.heap.IsTuple a its.toArray from p) ⟨_, [s1.heap.objs.size], _, _, H1, rfl, ?_, turn_tuple a _, ?_, it_end I1, q⟩
  · exact I1.kept (t' := s1.toks) fun _ _ e => Heap.get?_push_of_some _ e
  · exact ⟨_, Heap.get?_push_size _ rfl, rfl, rfl⟩
/-- over a list or a tuple -/
theorem pi_seq {l : Expr} {tl : TE} (hl : PE X l tl) : PI X tg l (fun σ H R => tl σ H fun x H1 => ∃ a xs, x = .ref a ∧ ((SqL X.K H1 a xs ∧ R (Itl X.K a) H1) ∨ (SqT X.K H1 a xs ∧ R (Itt X.K a) H1))) := by
  constructor
  intro pins s σ H R I h
  refine thn (hl.run pins s σ H _ I h) fun v s1 out => ?_
  obtain ⟨x, H1, I1, r1, a, xs, rfl, hq⟩ := out
  cases r1
  rcases hq with ⟨h1, q⟩ | ⟨h1, q⟩
  · exact it_lst I1 h1 q
  · exact it_tup I1 h1 q
theorem jok_list {a : Addr} {items : List D} {I : DStore → Prop} (h : ∀ η' μ' S' H', Ext η μ H η' μ' H' → Rp K η' μ' S' H' → I S' → ∃ vs, SqL K H' a vs ∧ RVs K H' η' μ' items vs) : JOk K η μ H (Itl K a) items I := by
  intro i η' μ' S' H' e r g
  obtain ⟨vs, hs, q⟩ := h η' μ' S' H' e r g
  refine ⟨fun hi => ?_, fun hi => ⟨vs, hs, by rw [← q.length]; exact hi⟩⟩
  obtain ⟨v, hv, rv⟩ := q.get (List.getElem?_eq_getElem hi)
  refine ⟨⟨vs, v, hs, hv⟩, fun x H'' hy => ?_⟩
  obtain ⟨rfl, f⟩ := hy
  have : x = v := Option.some.inj ((f vs hs).symm.trans hv)
  subst this
  exact ⟨.refl, r, _, List.getElem?_eq_getElem hi, rv⟩
theorem jok_tup {a : Addr} {items : List D} {I : DStore → Prop} (h : ∀ η' μ' S' H', Ext η μ H η' μ' H' → Rp K η' μ' S' H' → I S' → ∃ vs, SqT K H' a vs ∧ RVs K H' η' μ' items vs) : JOk K η μ H (Itt K a) items I := by
  intro i η' μ' S' H' e r g
  obtain ⟨vs, hs, q⟩ := h η' μ' S' H' e r g
  refine ⟨fun hi => ?_, fun hi => ⟨vs, hs, by rw [← q.length]; exact hi⟩⟩
  obtain ⟨v, hv, rv⟩ := q.get (List.getElem?_eq_getElem hi)
  refine ⟨⟨vs, v, hs, hv⟩, fun x H'' hy => ?_⟩
  obtain ⟨rfl, f⟩ := hy
  have : x = v := Option.some.inj ((f vs hs).symm.trans hv)
  subst this
  exact ⟨.refl, r, _, List.getElem?_eq_getElem hi, rv⟩
theorem jok_range {lo hi : Int} {n : Nat} (hn : n = (hi - lo).toNat) : JOk K η μ H (Itr lo n) (rangeD lo hi) (fun _ => True) := by
  intro i η' μ' S' H' e r g
  have hl : (rangeD lo hi).length = n := by simp [rangeD, hn]
  refine ⟨fun h => ⟨by show i < n; omega, fun x H'' hy => ?_⟩, fun h => by show n ≤ i; omega⟩
  obtain ⟨rfl, rfl⟩ := hy
  refine ⟨.refl, r, _, ?_, .int _⟩
  unfold rangeD
  rw [List.getElem?_map, List.getElem?_range (by omega)]
  rfl
theorem seq_it (r : Rp K η μ S H) {d : D} {v : V} {R : RI} {RJ : It → Hp → Prop} (rv : RV K H η μ d v) (h : itD S d R) (hJ : ∀ J items I, R items I S → JOk K η μ H J items I → RJ J H) :
    ∃ a xs, v = .ref a ∧ ((SqL K H a xs ∧ RJ (Itl K a) H) ∨ (SqT K H a xs ∧ RJ (Itt K a) H)) := by
  cases rv with
  | tup h1 q1 => exact ⟨_, _, rfl, .inr ⟨h1, hJ _ _ _ h (jok_tup fun η' μ' S' H' e _ _ => ⟨_, SqT.ext e h1, q1.ext e⟩)⟩⟩
  | @lst a xs ds hm hn h1 q1 => exact ⟨_, _, rfl, .inl ⟨.inl (.inl h1), hJ _ _ _ h (jok_list fun η' μ' S' H' e _ _ => ⟨_, .inl (.inl (e.keep _ _ h1 hm hn).1), q1.ext e⟩)⟩⟩
  | scr h1 q1 =>
    have hs : ∀ {η' μ' H'}, Ext η μ H η' μ' H' → SqL K H' _ _ := fun e => h1.elim (fun ⟨o, z⟩ => .inl (.inr ⟨o, e.frz _ _ _ z⟩)) fun z => z _
    exact ⟨_, _, rfl, .inl ⟨hs (Ext.refl (η := η) (μ := μ)), hJ _ _ _ h (jok_list fun η' μ' S' H' e _ _ => ⟨_, hs e, q1.ext e⟩)⟩⟩
  | @ref n a h1 =>
    obtain ⟨xs, e1, h⟩ := h
    obtain ⟨b, hb, vs, e2, q2⟩ := r.cell n _ e1
    rw [h1] at hb; cases hb
    refine ⟨_, _, rfl, .inl ⟨.inl (.inl e2), hJ _ _ _ h (jok_list fun η' μ' S' H' e r' g => ?_)⟩⟩
    obtain ⟨c, hc, ws, e3, q3⟩ := r'.cell n _ g
    obtain ⟨m, rfl⟩ := e.pre
    rw [List.getElem?_append_left (List.getElem?_eq_some_iff.mp h1).1, h1] at hc
    cases hc
    exact ⟨ws, .inl (.inl e3), q3⟩
  | _ => exact h.elim

theorem zip_get {xs ys : List D} {i : Nat} {x y : D} (hx : xs[i]? = some x) (hy : ys[i]? = some y) : (zipD xs ys)[i]? = some (.tup [x, y]) := by
  have : (xs.zip ys)[i]? = some (x, y) := List.getElem?_zip_eq_some.mpr ⟨hx, hy⟩
  simp only [zipD, List.getElem?_map, this, Option.map_some]
theorem zip_len {xs ys : List D} : (zipD xs ys).length = min xs.length ys.length := by simp [zipD]
theorem enum_get {xs : List D} {i : Nat} {x : D} (hx : xs[i]? = some x) : (enumD xs)[i]? = some (.tup [.int i, x]) := by
  simp [enumD, List.getElem?_map, List.getElem?_zipIdx, hx]
theorem enum_len {xs : List D} : (enumD xs).length = xs.length := by simp [enumD]
theorem jok_zipL {a b : Addr} {xs ys : List D} {I : DStore → Prop} (h : ∀ η' μ' S' H', Ext η μ H η' μ' H' → Rp K η' μ' S' H' → I S' → ∃ vs ws, SqL K H' a vs ∧ SqL K H' b ws ∧ RVs K H' η' μ' xs vs ∧ RVs K H' η' μ' ys ws) : JOk K η μ H (Itz K a b) (zipD xs ys) I := by
  intro i η' μ' S' H' e r g
  obtain ⟨vs, ws, h1, h2, q1, q2⟩ := h η' μ' S' H' e r g
  have l1 := q1.length
  have l2 := q2.length
  rw [zip_len]
  refine ⟨fun hi => ?_, fun hi => ⟨vs, ws, h1, h2, by omega⟩⟩
  have hix : i < xs.length := by omega
  have hiy : i < ys.length := by omega
  obtain ⟨v, hv, rv⟩ := q1.get (List.getElem?_eq_getElem hix)
  obtain ⟨w, hw, rw'⟩ := q2.get (List.getElem?_eq_getElem hiy)
  refine ⟨⟨vs, ws, v, w, h1, h2, hv, hw⟩, fun x H'' hy => ?_⟩
  obtain ⟨T, v2, w2, rfl, hT, rfl, f1, f2⟩ := hy
  have e1 : v2 = v := Option.some.inj ((f1 vs h1).symm.trans hv)
  have e2 : w2 = w := Option.some.inj ((f2 ws h2).symm.trans hw)
  subst e1 e2
  exact ⟨grow_new r hT, rp_new r hT, _, zip_get (List.getElem?_eq_getElem hix) (List.getElem?_eq_getElem hiy), rv_new_tup r hT (.cons rv (.cons rw' .nil))⟩
theorem jok_zipT {a b : Addr} {xs ys : List D} {I : DStore → Prop} (h : ∀ η' μ' S' H', Ext η μ H η' μ' H' → Rp K η' μ' S' H' → I S' → ∃ vs ws, SqT K H' a vs ∧ SqT K H' b ws ∧ RVs K H' η' μ' xs vs ∧ RVs K H' η' μ' ys ws) : JOk K η μ H (RZ.ItzT K a b) (zipD xs ys) I := by
  intro i η' μ' S' H' e r g
  obtain ⟨vs, ws, h1, h2, q1, q2⟩ := h η' μ' S' H' e r g
  have l1 := q1.length
  have l2 := q2.length
  rw [zip_len]
  refine ⟨fun hi => ?_, fun hi => ⟨vs, ws, h1, h2, by omega⟩⟩
  have hix : i < xs.length := by omega
  have hiy : i < ys.length := by omega
  obtain ⟨v, hv, rv⟩ := q1.get (List.getElem?_eq_getElem hix)
  obtain ⟨w, hw, rw'⟩ := q2.get (List.getElem?_eq_getElem hiy)
  refine ⟨⟨vs, ws, v, w, h1, h2, hv, hw⟩, fun x H'' hy => ?_⟩
  obtain ⟨T, v2, w2, rfl, hT, rfl, f1, f2⟩ := hy
  have e1 : v2 = v := Option.some.inj ((f1 vs h1).symm.trans hv)
  have e2 : w2 = w := Option.some.inj ((f2 ws h2).symm.trans hw)
  subst e1 e2
  exact ⟨grow_new r hT, rp_new r hT, _, zip_get (List.getElem?_eq_getElem hix) (List.getElem?_eq_getElem hiy), rv_new_tup r hT (.cons rv (.cons rw' .nil))⟩
theorem jok_enum {a : Addr} {xs : List D} {I : DStore → Prop} (h : ∀ η' μ' S' H', Ext η μ H η' μ' H' → Rp K η' μ' S' H' → I S' → ∃ vs, SqL K H' a vs ∧ RVs K H' η' μ' xs vs) : JOk K η μ H (Ite K a) (enumD xs) I := by
  intro i η' μ' S' H' e r g
  obtain ⟨vs, h1, q1⟩ := h η' μ' S' H' e r g
  have l1 := q1.length
  rw [enum_len]
  refine ⟨fun hi => ?_, fun hi => ⟨vs, h1, by omega⟩⟩
  obtain ⟨v, hv, rv⟩ := q1.get (List.getElem?_eq_getElem hi)
  refine ⟨⟨vs, v, h1, hv⟩, fun x H'' hy => ?_⟩
  obtain ⟨T, v2, rfl, hT, rfl, f1⟩ := hy
  have e1 : v2 = v := Option.some.inj ((f1 vs h1).symm.trans hv)
  subst e1
  exact ⟨grow_new r hT, rp_new r hT, _, enum_get (List.getElem?_eq_getElem hi), rv_new_tup r hT (.cons (.int _) (.cons rv .nil))⟩
theorem jok_rangeC {lo c : Int} {n : Nat} : JOk K η μ H (Itc lo c n) (range3D lo c n) (fun _ => True) := by
  intro i η' μ' S' H' e r g
  have hl : (range3D lo c n).length = n := by simp [range3D]
  refine ⟨fun h => ⟨by show i < n; omega, fun x H'' hy => ?_⟩, fun h => by show n ≤ i; omega⟩
  obtain ⟨rfl, rfl⟩ := hy
  refine ⟨.refl, r, _, ?_, .int _⟩
  unfold range3D
  rw [List.getElem?_map, List.getElem?_range (by omega)]
  rfl
theorem zip_it (r : Rp K η μ S H) {x y : D} {v w : V} {R : RI} {RJ : It → Hp → Prop} (rx : RV K H η μ x v) (ry : RV K H η μ y w) (h : zipP S x y R) (hJ : ∀ J items I, R items I S → JOk K η μ H J items I → RJ J H) :
    ∃ a b xs ys, [v, w] = [V.ref a, V.ref b] ∧ ((SqL K H a xs ∧ SqL K H b ys ∧ RJ (Itz K a b) H) ∨ (SqT K H a xs ∧ SqT K H b ys ∧ RJ (RZ.ItzT K a b) H)) := by
  unfold zipP at h
  split at h
  · cases rx with
    | tup h1 q1 =>
      cases ry with
      | tup h2 q2 => exact ⟨_, _, _, _, rfl, .inr ⟨h1, h2, hJ _ _ _ h (jok_zipT fun η' μ' S' H' e _ _ => ⟨_, _, SqT.ext e h1, SqT.ext e h2, q1.ext e, q2.ext e⟩)⟩⟩
  · obtain ⟨xs, ys, e1, e2, h⟩ := h
    obtain ⟨a, vs, rfl, ha, qa⟩ := lst_of r rx e1
    obtain ⟨b, ws, rfl, hb, qb⟩ := lst_of r ry e2
    refine ⟨a, b, vs, ws, rfl, .inl ⟨.inl (.inl ha), .inl (.inl hb), hJ _ _ _ h (jok_zipL fun η' μ' S' H' e r' g => ?_)⟩⟩
    obtain ⟨a', vs', ea, ha', qa'⟩ := lst_of r' (rx.ext e) g.1
    obtain ⟨b', ws', eb, hb', qb'⟩ := lst_of r' (ry.ext e) g.2
    cases ea; cases eb
    exact ⟨vs', ws', .inl (.inl ha'), .inl (.inl hb'), qa', qb'⟩
theorem enum_it (r : Rp K η μ S H) {x : D} {v : V} {R : RI} {RJ : It → Hp → Prop} (rx : RV K H η μ x v) (h : enumP S x R) (hJ : ∀ J items I, R items I S → JOk K η μ H J items I → RJ J H) :
    ∃ a xs, [v] = [V.ref a] ∧ SqL K H a xs ∧ RJ (Ite K a) H := by
  obtain ⟨xs, e1, h⟩ := h
  obtain ⟨a, vs, rfl, ha, qa⟩ := lst_of r rx e1
  refine ⟨a, vs, rfl, .inl (.inl ha), hJ _ _ _ h (jok_enum fun η' μ' S' H' e r' g => ?_)⟩
  obtain ⟨a', vs', ea, ha', qa'⟩ := lst_of r' (rx.ext e) g
  cases ea
  exact ⟨vs', .inl (.inl ha'), qa'⟩
def tyS : TyB → String
  | .int => "int" | .bool => "bool" | .str => "str" | .tuple => "tuple" | .list => "list"
/-- what isinstance asks -/
theorem ty_of (r : Rp K η μ S H) {x : D} {v : V} {t : TyB} {Q : QE} (rx : RV K H η μ x v) (h : isiP t x S Q) : ∃ ty, TyX K H v (.type ty) ∧ kitB ty (tyS t) = some (isiD t x) ∧ Q (.bl (isiD t x)) S := by
  cases rx with
  | non => exact ⟨"NoneType", .base .non, by clear h; cases t <;> (simp only [isiD]; decide +kernel), h⟩
  | bl b => exact ⟨"bool", .base (.bl b), by clear h; cases t <;> (simp only [isiD]; decide +kernel), h⟩
  | int b => exact ⟨"int", .base (.int b), by clear h; cases t <;> (simp only [isiD]; decide +kernel), h⟩
  | str b => exact ⟨"str", .base (.str b), by clear h; cases t <;> (simp only [isiD]; decide +kernel), h⟩
  | tup h1 q1 =>
    refine ⟨"tuple", ?_, by clear h; cases t <;> (simp only [isiD]; decide +kernel), h⟩
    rcases h1 with (h1 | ⟨o, h1⟩) | ⟨o, its, n, h1, h2, _⟩
    · exact .base (.tup h1)
    · exact .fTuple h1
    · exact .kTuple h1 h2
  | lst hm hn h1 q1 => exact ⟨"list", .base (.lst h1), by clear h; cases t <;> (simp only [isiD]; decide +kernel), h⟩
  | scr h1 q1 => exact h.elim
  | @ref n a h1 =>
    obtain ⟨hn, h⟩ := h
    obtain ⟨b, hb, c⟩ := r.cell n _ (List.getElem?_eq_getElem hn)
    rw [h1] at hb; cases hb
    cases hc : S[n] with
    | lst xs =>
      rw [hc] at c
      obtain ⟨vs, e2, q2⟩ := c
      exact ⟨"list", .base (.lst e2), by clear h; cases t <;> (simp only [isiD]; decide +kernel), h⟩
end

/-! ### slots of a comprehension -/
theorem wipe_get (σ : L2.St) : ∀ (vs : List Nat) (i : Nat), (wipe σ vs)[i]? = if i ∈ vs then (σ[i]?).map (fun _ => none) else σ[i]?
  | [], i => by simp [wipe]
  | v :: vs, i => by
    have ih := wipe_get σ vs i
    have hl := wipe_length σ vs
    by_cases h : v = i
    · subst h
      by_cases hv : v < σ.length
      · simp [wipe, List.getElem?_set_self (show v < (wipe σ vs).length by omega), List.getElem?_eq_getElem hv]
      · have : σ[v]? = none := List.getElem?_eq_none_iff.mpr (by omega)
        simp [wipe, this]
        omega
    · have h' : ¬ i = v := fun z => h z.symm
      simp only [wipe, List.getElem?_set_ne h, ih, List.mem_cons, h', false_or]
theorem wipe_ext {σ τ : L2.St} {vs : List Nat} (hl : τ.length = σ.length) (h : ∀ i, i ∉ vs → τ[i]? = (wipe σ vs)[i]?) : wipe τ vs = wipe σ vs := by
  apply List.ext_getElem?
  intro i
  rw [wipe_get, wipe_get]
  by_cases hi : i ∈ vs
  · rw [if_pos hi, if_pos hi]
    by_cases hv : i < σ.length
    · rw [List.getElem?_eq_getElem hv, List.getElem?_eq_getElem (by omega)]; rfl
    · rw [List.getElem?_eq_none_iff.mpr (by omega), List.getElem?_eq_none_iff.mpr (by omega)]
  · rw [if_neg hi, if_neg hi]
    have := h i hi
    rw [wipe_get, if_neg hi] at this
    exact this
theorem re_wipe {K : PySem.W.Frag} {H : Hp} {η μ : List Addr} {ρ : DEnv} {σ : L2.St} (r : RE K H η μ ρ σ) : ∀ vs, RE K H η μ (wipeD ρ vs) (wipe σ vs)
  | [] => r
  | v :: vs => (re_wipe r vs).del v

/-! ### simple targets -/
def CT.simple : CT → Bool
  | .name _ => true
  | .tup ts => simples ts
  | .sub _ _ => false
where simples : List CT → Bool
  | [] => true
  | t :: ts => CT.simple t && simples ts
def CT.slots : CT → List Nat
  | .name i => [i]
  | .tup ts => slotss ts
  | .sub _ _ => []
where slotss : List CT → List Nat
  | [] => []
  | t :: ts => CT.slots t ++ slotss ts
section
variable (K : PySem.W.Frag)
mutual
def gS : CT → TG
  | .name i => gName i
  | .tup ts => gTup K ts.length (gSs ts)
  | .sub _ _ => fun _ _ _ _ => False
def gSs : List CT → TGs
  | [] => gNil
  | t :: ts => gCons (gS t) (gSs ts)
end
end
section
variable {K : PySem.W.Frag} {η μ : List Addr} {S : DStore} {H : Hp} {G : Fns}
mutual
theorem gS_run : ∀ (t : CT) {d : D} {v : V} {ρ : DEnv} {σ : L2.St} {QD : DEnv → DStore → Prop} {Q : L2.St → Hp → Prop}, CT.simple t = true → RE K H η μ ρ σ → RV K H η μ d v → wpG G t d ρ S QD →
    (∀ ρ' σ', RE K H η μ ρ' σ' → σ'.length = σ.length → (∀ i, i ∉ CT.slots t → σ'[i]? = σ[i]?) → QD ρ' S → Q σ' H) → gS K t v σ H Q
  | .name i, d, v, ρ, σ, QD, Q, _, hE, rv, h, hQ => by
    simp only [wpG] at h
    refine hQ _ _ (hE.set rv i) (by simp) (fun j hj => ?_) h
    rw [List.getElem?_set_ne (fun z => hj (by simp [CT.slots, z]))]
  | .tup ts, d, v, ρ, σ, QD, Q, hs, hE, rv, h, hQ => by
    simp only [wpG] at h
    obtain ⟨xs, rfl, hl, h⟩ := h
    cases rv with
    | tup h1 q1 => exact ⟨_, _, rfl, h1, by rw [← q1.length]; exact hl, gSs_run ts hs hE q1 h hl hQ⟩
  | .sub _ _, _, _, _, _, _, _, hs, _, _, _, _ => by simp [CT.simple] at hs
theorem gSs_run : ∀ (ts : List CT) {ds : List D} {vs : List V} {ρ : DEnv} {σ : L2.St} {QD : DEnv → DStore → Prop} {Q : L2.St → Hp → Prop}, CT.simple.simples ts = true → RE K H η μ ρ σ → RVs K H η μ ds vs → wpGs G ts ds ρ S QD → ds.length = ts.length →
    (∀ ρ' σ', RE K H η μ ρ' σ' → σ'.length = σ.length → (∀ i, i ∉ CT.slots.slotss ts → σ'[i]? = σ[i]?) → QD ρ' S → Q σ' H) → gSs K ts vs σ H Q
  | [], ds, vs, ρ, σ, QD, Q, _, hE, rv, h, hl, hQ => by
    have : ds = [] := List.eq_nil_of_length_eq_zero hl
    subst this
    cases rv
    simp only [wpGs] at h
    exact ⟨rfl, hQ _ _ hE rfl (fun _ _ => rfl) h⟩
  | t :: ts, ds, vs, ρ, σ, QD, Q, hs, hE, rv, h, hl, hQ => by
    simp only [wpGs] at h
    obtain ⟨d, r, rfl, h⟩ := h
    simp only [CT.simple.simples, Bool.and_eq_true] at hs
    cases rv with
    | cons a b =>
      refine ⟨_, _, rfl, gS_run t hs.1 hE a h fun ρ1 σ1 e1 l1 k1 q1 => ?_⟩
      refine gSs_run ts hs.2 e1 b q1 (by simpa using hl) fun ρ2 σ2 e2 l2 k2 q2 => hQ _ _ e2 (l2.trans l1) (fun i hi => ?_) q2
      simp only [CT.slots.slotss, List.mem_append, not_or] at hi
      rw [k2 i hi.2, k1 i hi.1]
end
end
end DL

namespace DL
open PySem PySem.Spec PyProof.Rows L2
/-! ### the look: a core is that of a text -/
structure FI where
  name : Str
  ps : List Str
  kws : List (List Str × List Nat)
structure Tb where
  fns : List FI
  gls : List Str
  bis : List Str
/-- the scope, and the one whose cells are one's own -/
structure SS where
  s : Scope
  o : Scope
def visB (sc : SS) (x : Str) : Bool := match sc.s.names.lookup x with
  | some .local | some .cell | some .free => true
  | _ => false
def locB (sc : SS) (x : Str) : Bool := match sc.s.names.lookup x with
  | some .local => true
  | some .cell => sc.o.names.lookup x == some .cell
  | _ => false
def glB (sc : SS) (x : Str) : Bool := match sc.s.names.lookup x with
  | some .globalImplicit => true
  | _ => false
def pureB (sc : SS) (x : Str) : Bool := match sc.s.names.lookup x with
  | some .local => true
  | _ => false
def notDbg (x : Str) : Bool := !(x == ("__debug__" : Str)) && !(x == ("__classdict__" : Str))
def TyB.nm : TyB → Str
  | .int => "int" | .bool => "bool" | .str => "str" | .tuple => "tuple" | .list => "list"
/-- walks that make pairs want a target that takes them apart -/
def CI.pairs : CI → Bool
  | .enum _ => true
  | .zip2 _ _ => true
  | _ => false
def isTupE : Expr → Bool
  | .Tuple .. => true
  | _ => false
def okC : CC → Const → Bool
  | .non, .none => true
  | .bl b, .bool c => b == c
  | .int i, .int j => i == j
  | .str x, .str y => x == y
  | _, _ => false
def notSl : Expr → Bool
  | .Slice .. => false
  | _ => true
def notCall : Expr → Bool
  | .Call .. => false
  | _ => true
def notComp : Expr → Bool
  | .ListComp .. | .SetComp .. | .DictComp .. => false
  | _ => true
def kwNames : List Keyword → List (Option Str)
  | [] => []
  | ⟨n, _, _⟩ :: r => n :: kwNames r
def swN (sc : SS) (ts vs : List Expr) : Option (Option (List Str)) :=
  if !(ts.length == 2 || ts.length == 3) || vs.length != ts.length then some none
  else if vs.any (fun | .Starred .. => true | _ => false) then some none
  else
    let line := (ts.head?.map (·.pos.line)).getD 0
    let names := ts.filterMap fun
      | .Name id pos => if sc.s.names.lookup id == some .local && pos.line == line then some id else none
      | _ => none
    if names.length != ts.length || names.eraseDups.length != names.length then some none
    else if vs.all (foldedForSure 8) then some none
    else if vs.all (constantsAlone 8) then none
    else some (some names)
/-- no exchange of stores -/
def noSwap (sc : SS) : Expr → Expr → Bool
  | .Tuple ts _ _, .Tuple vs _ _ => match swN sc ts vs with
    | some none => true
    | _ => false
  | .List _ _, .Tuple _ _ _ => false
  | _, _ => true
section
variable (T : Tb) (N : List Str)
mutual
def okE (sc : SS) : CE → Expr → Bool
  | .var i, .Name x _ => visB sc x && (N[i]? == some x) && notDbg x
  | .con c, .Constant k _ _ => okC c k
  | .glo j, .Name x _ => glB sc x && (T.gls[j]? == some x) && notDbg x
  | .bin op _ a b, .BinOp a' op' b' _ => op == op' && okE sc a a' && okE sc b b'
  | .neg a, .UnaryOp .USub a' _ => okE sc a a'
  | .cmp op a b, .Compare a' [op'] [b'] _ => op == op' && okE sc a a' && okE sc b b'
  | .chain op1 op2 a b c, .Compare a' [o1, o2] [b', c'] _ => op1 == o1 && op2 == o2 && okE sc a a' && okE sc b b' && okE sc c c'
  | .and_ a b, .BoolOp .And (a' :: b' :: r) p => okE sc a a' && (match r with
      | [] => okE sc b b'
      | c' :: r' => okE sc b (.BoolOp .And (b' :: c' :: r') p))
  | .or_ a b, .BoolOp .Or (a' :: b' :: r) p => okE sc a a' && (match r with
      | [] => okE sc b b'
      | c' :: r' => okE sc b (.BoolOp .Or (b' :: c' :: r') p))
  | .not_ a, .UnaryOp .Not a' _ => okE sc a a'
  | .ite t a b, .IfExp t' a' b' _ => okB sc t t' && okE sc a a' && okE sc b b'
  | .tup es, .Tuple es' _ _ => okEs sc es es' && es.length ≤ 1000
  | .lst _ es, .List es' _ => okEs sc es es' && es.length ≤ 1000
  | .ix a i, .Subscript a' i' _ => okE sc a a' && okE sc i i' && notSl i'
  | .sl _ a lo hi, .Subscript a' (.Slice lo' hi' none _) _ => okE sc a a' && okO sc lo lo' && okO sc hi hi'
  | .call j es, .Call (.Name x _) (e' :: es') [] _ => glB sc x && notDbg x && okEs sc es (e' :: es') && (match T.fns[j]? with
      | some i => i.name == x
      | none => false)
  | .callK j es kes perm, .Call (.Name x _) es' kws _ => glB sc x && notDbg x && okEs sc es es' && okKs sc kes kws && (match T.fns[j]? with
      | some i => i.name == x && i.kws.any (fun p => p.1.map some == kwNames kws && p.2 == perm)
      | none => false)
  | .bi b _ es, .Call (.Name x _) (e' :: es') [] _ => glB sc x && (b.name == x) && T.bis.contains x && okEs sc es (e' :: es')
  | .isi t a, .Call (.Name x _) [a', .Name y _] [] _ => x == ("isinstance" : Str) && glB sc x && T.bis.contains x && y == t.nm && glB sc y && T.bis.contains y && okE sc a a'
  | .lc _ elt tg it ifs own, .ListComp elt' [⟨tg', it', ifs', 0⟩] scope _ => blkC N sc.s scope (own.map fun i => (N.getD i "", i)) && okE ⟨relS scope sc.s, scope⟩ elt elt' && okT ⟨relS scope sc.s, scope⟩ tg tg' && tg.simple && tg.slots.all (own.contains ·) && okI sc it it' && okBs ⟨relS scope sc.s, scope⟩ ifs ifs' && decide (ifs.length ≤ 1) && (!it.pairs || isTupE tg')
  | _, _ => false
def okEs (sc : SS) : List CE → List Expr → Bool
  | [], [] => true
  | e :: es, e' :: es' => okE sc e e' && okEs sc es es'
  | _, _ => false
def okKs (sc : SS) : List CE → List Keyword → Bool
  | [], [] => true
  | e :: es, ⟨n, e', _⟩ :: es' => n.isSome && okE sc e e' && okKs sc es es'
  | _, _ => false
def okO (sc : SS) : CO → Option Expr → Bool
  | .no, none => true
  | .yes e, some e' => okE sc e e'
  | _, _ => false
def okB (sc : SS) : CB → Expr → Bool
  | .cand a b, .BoolOp .And (a' :: b' :: r) p => okB sc a a' && (match r with
      | [] => okB sc b b'
      | c' :: r' => okB sc b (.BoolOp .And (b' :: c' :: r') p))
  | .cor a b, .BoolOp .Or (a' :: b' :: r) p => okB sc a a' && (match r with
      | [] => okB sc b b'
      | c' :: r' => okB sc b (.BoolOp .Or (b' :: c' :: r') p))
  | .cnot a, .UnaryOp .Not a' _ => okB sc a a'
  | .ccmp op a b, .Compare a' [op'] [b'] _ => op == op' && okE sc a a' && okE sc b b'
  | .cchain op1 op2 a b c, .Compare a' [o1, o2] [b', c'] _ => op1 == o1 && op2 == o2 && okE sc a a' && okE sc b b' && okE sc c c'
  | .cval e, .Name x p => okE sc e (.Name x p)
  | .cval e, .Call f as ks p => okE sc e (.Call f as ks p)
  | .cval e, .Subscript a i p => okE sc e (.Subscript a i p)
  | .cval e, .Constant c k p => okE sc e (.Constant c k p)
  | _, _ => false
def okBs (sc : SS) : List CB → List Expr → Bool
  | [], [] => true
  | e :: es, e' :: es' => okB sc e e' && okBs sc es es'
  | _, _ => false
def okT (sc : SS) : CT → Expr → Bool
  | .name i, .Name x _ => locB sc x && (N[i]? == some x)
  | .tup ts, .Tuple ts' _ _ => okTs sc ts ts'
  | .sub a i, .Subscript a' i' _ => okE sc a a' && okE sc i i' && notSl i'
  | _, _ => false
def okTs (sc : SS) : List CT → List Expr → Bool
  | [], [] => true
  | e :: es, e' :: es' => okT sc e e' && okTs sc es es'
  | _, _ => false
def okI (sc : SS) : CI → Expr → Bool
  | .seq e, e' => okE sc e e'
  | .range1 a, .Call (.Name x _) [a'] [] _ => x == ("range" : Str) && glB sc x && T.bis.contains x && okE sc a a'
  | .range2 a b, .Call (.Name x _) [a', b'] [] _ => x == ("range" : Str) && glB sc x && T.bis.contains x && okE sc a a' && okE sc b b'
  | .range3 a b c, .Call (.Name x _) [a', b', c'] [] _ => x == ("range" : Str) && glB sc x && T.bis.contains x && okE sc a a' && okE sc b b' && okE sc c c'
  | .enum a, .Call (.Name x _) [a'] [] _ => x == ("enumerate" : Str) && glB sc x && T.bis.contains x && okE sc a a'
  | .zip2 a b, .Call (.Name x _) [a', b'] [] _ => x == ("zip" : Str) && glB sc x && T.bis.contains x && okE sc a a' && okE sc b b'
  | _, _ => false
end
mutual
def okS (sc : SS) : CS → Stmt → Bool
  | .expr e, .Expr e' _ => okE T N sc e e' && notComp e'
  | .ret e, .Return (some e') _ => okE T N sc e e'
  | .retN, .Return none _ => true
  | .pass, .Pass _ => true
  | .brk, .Break _ => true
  | .cont, .Continue _ => true
  | .never, _ => true
  | .asg t e, .Assign [t'] e' _ => okT T N sc t t' && okE T N sc e e' && notComp e' && noSwap sc t' e' && (t.simple || match t with
      | .sub _ _ => true
      | _ => false)
  | .par2 i j a b, .Assign [.Tuple [.Name x px, .Name y py] kt pt] (.Tuple [a', b'] k2 p2) _ => pureB sc x && pureB sc y && (N[i]? == some x) && (N[j]? == some y) && decide (i ≠ j) && okE T N sc a a' && okE T N sc b b' && (swN sc [.Name x px, .Name y py] [a', b'] == some (some [x, y]))
  | .par3 i j k a b c, .Assign [.Tuple [.Name x px, .Name y py, .Name z pz] kt pt] (.Tuple [a', b', c'] k2 p2) _ => pureB sc x && pureB sc y && pureB sc z && (N[i]? == some x) && (N[j]? == some y) && (N[k]? == some z) && decide (i ≠ j) && decide (i ≠ k) && decide (j ≠ k) &&
      okE T N sc a a' && okE T N sc b b' && okE T N sc c c' && (swN sc [.Name x px, .Name y py, .Name z pz] [a', b', c'] == some (some [x, y, z]))
  | .setLc i e, .Assign [.Name y py] (.ListComp elt' gs scope pos) _ => (match e with
      | .lc .. => true
      | _ => false) && okE T N sc e (.ListComp elt' gs scope pos) && pureB sc y && (N[i]? == some y) && (py.line == pos.line) && !(scope.names.any fun (n, k) => n == y && (k == .local || k == .cell))
  | .aug i op e, .AugAssign (.Name x _) op' e' _ => op == op' && locB sc x && (N[i]? == some x) && okE T N sc e e'
  | .append a e, .Expr (.Call (.Attribute o m ap) [e'] [] cp) _ => m == ("append" : Str) && (ap.endLine == cp.line) && okE T N sc a o && okE T N sc e e' && notCall o
  | .if_ c a b, .If c' a' b' _ => okB T N sc c c' && okSs sc a a' && okSs sc b b'
  | .while_ c b, .While c' b' [] _ => okB T N sc c c' && okSs sc b b'
  | .for_ t it b, .For t' it' b' [] _ => okT T N sc t t' && t.simple && okI T N sc it it' && okSs sc b b' && (!it.pairs || isTupE t')
  | _, _ => false
def okSs (sc : SS) : List CS → List Stmt → Bool
  | [], [] => true
  | e :: es, e' :: es' => okS sc e e' && okSs sc es es'
  | _, _ => false
end
end
end DL

namespace DL
open PySem PySem.Spec PyProof.Rows L2
def spOf (K : PySem.W.Frag) (sp : List D → DStore → QE → Prop) : List V → Hp → VK → Prop := fun vs H Q => ∃ η μ S ds QD, Rp K η μ S H ∧ RVs K H η μ ds vs ∧ sp ds S QD ∧ ∀ v H', Post K η μ H QD v H' → Q v H'
/-- arguments by names, put at their places -/
def gK {α : Type} (d : α) (n : Nat) (perm : List Nat) (us ws : List α) : List α := if ws.length = n then us ++ perm.map (fun i => ws.getD i d) else []
structure Tab (P : Program) (w : World) (K : PySem.W.Frag) (mg : Str → Option Value) (base : Heap) (k : Nat) (T : Tb) (G : Fns) : Prop where
  fn : ∀ (j : Nat) (i : FI), T.fns[j]? = some i → ∃ f fd, FnG P w K mg base k f fd i.ps (spOf K (G.fn j)) ∧ mg i.name = some (.ref f) ∧ PySem.W.keepIn K (.ref f) = true ∧ KBinds K fd i.ps [] (fun us _ => us) (fun vs _ => vs) ∧
    ∀ p ∈ i.kws, KBinds K fd i.ps p.1 (gK .none p.1.length p.2) (gK .non p.1.length p.2)
  gl : ∀ (j : Nat) (x : Str), T.gls[j]? = some x → ∃ u v, mg x = some u ∧ RelV v u ∧ ∀ H η μ, RV K H η μ (G.gl j) v
  bi : ∀ x ∈ T.bis, mg x = none
structure Here (T : Tb) (G : Fns) (k : Nat) (N : List Str) (X : Cx) (sc : SS) : Prop where
  tab : Tab X.prog X.w X.K X.mg X.base k T G
  nm : X.N = N
  nd : N.Nodup
  scp : X.env.scope = sc.s
  kind : sc.s.kind = .function
  calm : X.calm = true
  room : Room k X.A
  gd : X.A.guards = some []
  xe : X.xe = fun _ _ => False
  fn : ∀ x, sc.o.names.lookup x = some .cell → X.fn x = true
section
variable {T : Tb} {G : Fns} {k : Nat} {N : List Str} {X : Cx} {sc : SS}
theorem vis_of {x : Str} (h : visB sc x = true) : Vis sc.s x := by
  unfold visB at h; unfold Vis
  split at h <;> simp_all
theorem loc_of {x : Str} (h : locB sc x = true) : L2.Loc sc.s x ∧ (sc.o.names.lookup x = some .cell ∨ sc.s.names.lookup x = some .local) := by
  unfold locB at h; unfold L2.Loc
  split at h <;> simp_all
theorem gl_of {x : Str} (hx : Here T G k N X sc) (h : glB sc x = true) : Gl X x := by
  unfold glB at h
  show X.env.scope.names.lookup x = some .globalImplicit
  rw [hx.scp]
  split at h <;> simp_all
theorem pure_of {x : Str} (h : pureB sc x = true) : sc.s.names.lookup x = some .local := by
  unfold pureB at h
  split at h <;> simp_all
theorem dbg_of {x : Str} (h : notDbg x = true) : (x == ("__debug__" : Str)) = false ∧ (x == ("__classdict__" : Str)) = false := by
  unfold notDbg at h
  simpa using h
theorem no_star {c : CE} {e : Expr} {p : Pos} : okE T N sc c (.Starred e p) = true → False := by
  cases c <;> simp [okE]
theorem no_set {c : CE} {es : List Expr} {n : Nat} {p : Pos} : okE T N sc c (.Set es n p) = true → False := by
  cases c <;> simp [okE]
theorem star_of {c : CE} {e : Expr} {es : List Expr} {env : Env} (h : okE T N sc c e = true) : starEach (e :: es) env = (false, eval e env) :: starEach es env := by
  cases e <;> first | rfl | exact (no_star h).elim
theorem mark_of {c : CE} {e : Expr} {op : CmpOp} (h : okE T N sc c e = true) : behindInMarks op e = false := by
  cases e <;> first | rfl | exact (no_set h).elim
theorem fold_of {c : CE} {e : Expr} {env : Env} (h : okE T N sc c e = true) : ∀ x, foldedSetIterable e env x = pure x := by
  cases e <;> first | (intro x; rfl) | exact (no_set h).elim
theorem stars_of {pos : Pos} {env : Env} : ∀ {es : List CE} {es' : List Expr}, okEs T N sc es es' = true → (backTo pos (starEach es' env)).any (·.1) = false
  | [], [], _ => rfl
  | [], _ :: _, h => by simp [okEs] at h
  | _ :: _, [], h => by simp [okEs] at h
  | e :: es, e' :: es', h => by
    simp only [okEs, Bool.and_eq_true] at h
    rw [star_of h.1]
    have ih := stars_of (pos := pos) (env := env) h.2
    simpa [backTo] using ih
theorem kws_of {pos : Pos} {env : Env} : ∀ {es : List CE} {ks : List Keyword} , okKs T N sc es ks = true → (backToKw pos (keywordEach ks env)).all (·.1.isSome) = true ∧ (backToKw pos (keywordEach ks env)).any (·.1.isNone) = false ∧
    (backToKw pos (keywordEach ks env)).map (·.1) = kwNames ks
  | [], [], _ => ⟨rfl, rfl, rfl⟩
  | [], _ :: _, h => by simp [okKs] at h
  | _ :: _, [], h => by simp [okKs] at h
  | e :: es, ⟨n, e', p⟩ :: es', h => by
    simp only [okKs, Bool.and_eq_true] at h
    obtain ⟨a, b, c⟩ := kws_of (pos := pos) (env := env) h.2
    refine ⟨?_, ?_, ?_⟩
    · simp [backToKw, keywordEach] at a ⊢
      exact ⟨h.1.1, a⟩
    · simp [backToKw, keywordEach] at b ⊢
      exact ⟨by cases n <;> simp_all, b⟩
    · simp [backToKw, keywordEach, kwNames] at c ⊢
      exact c
theorem filterMap_names : ∀ {α : Type} (l : List (Option Str × α)) (ks : List Str), l.map (·.1) = ks.map some → l.filterMap (·.1) = ks
  | _, [], [], _ => rfl
  | _, [], _ :: _, h => by simp at h
  | _, _ :: _, [], h => by simp at h
  | _, (n, a) :: l, y :: ks, h => by
    simp only [List.map_cons, List.cons.injEq] at h
    obtain ⟨h1, h2⟩ := h
    have h1' : n = some y := h1
    subst h1'
    have ih := filterMap_names l ks h2
    simpa using ih
theorem sub_of {o i : Expr} {pos : Pos} {env : Env} (h : notSl i = true) : ∀ v, assign (.Subscript o i pos) env v = (do
      let ov ← holding [v] (eval o env)
      let iv ← holding [v, ov] (eval i env)
      standAt pos
      holding [v, ov, iv] (setItem ov iv v)
      release [v, ov, iv] []) := by
  cases i <;> first | (intro v; rfl) | (simp [notSl] at h)
theorem plain_of {i : Expr} (h : notSl i = true) : PlainIx i := by
  cases i <;> first | (intro o j; rfl) | (simp [notSl] at h)
theorem base_of {o : Expr} {m : Str} {env : Env} (h : notCall o = true) : attributeBase o m env (eval o env) = eval o env := by
  cases o <;> first | rfl | (simp [notCall] at h)
theorem swaps_of {e : Expr} {t : Option Expr} {l : Nat} {env : Env} (h : notComp e = true) : swapsWith e t l env = pure false := by
  cases e <;> first | rfl | (simp [notComp] at h)
theorem block_of (hx : Here T G k N X sc) : X.env.blockKind = .function := by
  unfold Env.blockKind
  rw [hx.scp, hx.kind]; rfl
theorem swN_of (hx : Here T G k N X sc) {ts vs : List Expr} {r : Option (List Str)} {k1 k2 : Nat} {p1 p2 : Pos} (h : swN sc ts vs = some r) : swappedStores [.Tuple ts k1 p1] (.Tuple vs k2 p2) X.env = pure r := by
  have hb := block_of hx
  unfold swN at h
  unfold swappedStores
  have hk : ∀ id : Str, X.env.kindOf id = sc.s.names.lookup id := fun id => by
    show X.env.scope.names.lookup id = _
    rw [hx.scp]
  simp only [hb, hk, bne_self_eq_false, Bool.or_false]
  split at h
  · rename_i h1
    cases h
    exact if_pos h1
  · rename_i h1
    refine (if_neg h1).trans ?_
    split at h
    · rename_i h2
      cases h
      exact if_pos h2
    · rename_i h2
      refine (if_neg h2).trans ?_
      simp only at h
      split at h
      · rename_i h3
        cases h
        exact if_pos h3
      · rename_i h3
        refine (if_neg h3).trans ?_
        split at h
        · rename_i h4
          cases h
          exact if_pos h4
        · rename_i h4
          refine (if_neg h4).trans ?_
          split at h
          · cases h
          · rename_i h5
            cases h
            exact if_neg h5
theorem noSwap_of (hx : Here T G k N X sc) {t e : Expr} (h : noSwap sc t e = true) : swappedStores [t] e X.env = pure none := by
  unfold noSwap at h
  split at h
  · split at h
    · rename_i h1; exact swN_of hx h1
    · cases h
  · cases h
  · rename_i h1 h2
    cases t <;> cases e <;> first | rfl | exact (h1 _ _ _ _ _ _ rfl rfl).elim | exact (h2 _ _ _ _ _ rfl rfl).elim
end
end DL

namespace DL
open PySem PySem.Spec PyProof.Rows L2
section
variable {T : Tb} {G : Fns} {k : Nat} {N : List Str}
theorem getD_of {K : PySem.W.Frag} {H : Hp} {η μ : List Addr} {ds : List D} {vs : List V} (q : RVs K H η μ ds vs) (i : Nat) : RV K H η μ (ds.getD i .non) (vs.getD i .non) := by
  by_cases h : i < ds.length
  · obtain ⟨v, e, r⟩ := q.get (List.getElem?_eq_getElem h)
    rw [List.getD_eq_getElem?_getD, List.getD_eq_getElem?_getD, List.getElem?_eq_getElem h, e]
    exact r
  · rw [List.getD_eq_getElem?_getD, List.getD_eq_getElem?_getD, List.getElem?_eq_none_iff.mpr (by omega), List.getElem?_eq_none_iff.mpr (by rw [← q.length]; omega)]
    exact .non
theorem perm_of {K : PySem.W.Frag} {H : Hp} {η μ : List Addr} {ds : List D} {vs : List V} (q : RVs K H η μ ds vs) : ∀ l : List Nat, RVs K H η μ (l.map fun i => ds.getD i .non) (l.map fun i => vs.getD i .non)
  | [] => .nil
  | i :: l => .cons (getD_of q i) (perm_of q l)
theorem Here.blk {X : Cx} {sc : SS} {scope : Scope} (hx : Here T G k N X sc) (hk : scope.kind = .function) (s : Shared) (H : Hp) (C : Addr) (cl : List (Str × Addr)) (fp : List Addr) :
    Here T G k N (X.blk s H scope (compEnvC scope cl C X.env) fp) ⟨relS scope sc.s, scope⟩ :=
  ⟨hx.tab, hx.nm, hx.nd, by rw [← hx.scp]; rfl, hk, hx.calm, hx.room, hx.gd, rfl, fun x h => by show (scope.names.lookup x == some .cell) = true; rw [h]; rfl⟩
theorem grow_hidden {μ μ' : List Addr} {H H' : Hp} {D : Addr} {o : HO} (g : Grow μ H μ' H') (h : H D = none) : Grow μ H μ' (upd H' D o) :=
  ⟨g.pre, fun a u e n => ⟨by rw [upd_ne (ne_of_none e h)]; exact (g.keep a u e n).1, (g.keep a u e n).2⟩, fun a xs e => by rw [upd_ne (ne_of_none e h)]; exact g.tup a xs e, fun a u w e => by rw [upd_ne (ne_of_none e h)]; exact g.frz a u w e⟩
theorem ext_hidden {η μ μ' : List Addr} {H H' : Hp} {D : Addr} (g : Grow μ H μ' H') (h : H D = none) : Ext η μ H (D :: η) μ' H' :=
  ⟨g.pre, fun a u e n m => ⟨(g.keep a u e n).1, (g.keep a u e n).2, fun z => by
    rcases List.mem_cons.mp z with z | z
    · exact ne_of_none e h z
    · exact m z⟩, g.tup, g.frz⟩
theorem bool_ext {X : Cx} {op : BoolOp} {vs : List Expr} {p : Pos} {t : TT} (h : PT X (.BoolOp op vs p) t) : PW X (.BoolOp op vs p) t := ⟨fun whole pins s σ H Q I q => by
  have := h.run pins s σ H Q I q
  simp only [PySem.isTrue] at this ⊢
  exact this⟩
/-- the reading of a comprehension -/
theorem lc_of {X : Cx} {η μ : List Addr} {ρ : DEnv} {S : DStore} {σ : L2.St} {H : Hp} {m : Bool} {elt : CE} {tg : CT} {it : CI} {ifs : List CB} {own : List Nat} {QD : QE} {Q : VK}
    (hE : RE X.K H η μ ρ σ) (hR : Rp X.K η μ S H) (hs : tg.simple = true) (hsl : ∀ i ∈ tg.slots, i ∈ own) (hT : wpE G (.lc m elt tg it ifs own) ρ S QD) (hQ : ∀ v H', Post X.K η μ H QD v H' → Q v H') :
    tLc (iOf X.K (wpI G it)) (gS X.K tg) (bOf X.K (wpBs G ifs)) (tOf X.K (wpE G elt)) own σ H Q := by
  simp only [wpE] at hT
  refine ⟨η, μ, ρ, S, _, hE, hR, hT, fun J H1 items I S1 μ1 g1 r1 hW jok D hD => ?_⟩
  obtain ⟨W, w0, wst, hlen, turn, fin⟩ := hW
  have hDη : D ∉ η := (r1.fresh hD).2
  refine ⟨fun i m H' => i ≤ items.length ∧ m = items.length - i ∧ ∃ acc vs S' μ', Grow μ1 H1 μ' H' ∧ Rp X.K (D :: η) μ' S' H' ∧ H' D = some (.lst vs) ∧ RVs X.K H' (D :: η) μ' acc vs ∧ W i acc S',
    ⟨items.length, Nat.zero_le _, rfl, [], [], S1, μ1, grow_new r1 hD, rp_hide r1 hD, upd_same, .nil, w0⟩, ?_⟩
  rintro i mm H' ⟨hi, rfl, acc, vs, S', μ', gg, rr, hDv, rvs, w⟩
  obtain ⟨hI, hacc, _⟩ := wst i acc S' w
  obtain ⟨jgo, jstop⟩ := jok i (D :: η) μ' S' H' (ext_hidden gg hD) rr hI
  by_cases hlt : i < items.length
  · right
    obtain ⟨go, yl⟩ := jgo hlt
    refine ⟨go, fun H'' => i + 1 ≤ items.length ∧ ∃ acc vs S' μ', Grow μ1 H1 μ' H'' ∧ Rp X.K (D :: η) μ' S' H'' ∧ H'' D = some (.lst vs) ∧ RVs X.K H'' (D :: η) μ' acc vs ∧ W (i + 1) acc S',
      fun H'' hN => ⟨items.length - (i + 1), by omega, hN.1, rfl, hN.2⟩, fun x H'' hy => ?_⟩
    obtain ⟨gy, ry, d, hd, rvd⟩ := yl x H'' hy
    have hE2 : RE X.K H'' (D :: η) μ' ρ σ := ((hE.ext g1.ext).ext (ext_hidden gg hD)).ext gy.ext
    refine gS_run tg hs (re_wipe hE2 own) rvd (turn i d acc S' w hd) fun ρ2 σ2 e2 l2 k2 q2 => ⟨?_, ?_⟩
    · refine wipe_ext (by rw [l2, wipe_length]) fun j hj => ?_
      exact k2 j fun z => hj (hsl j z)
    · have hDy : H'' D = some (.lst vs) := (gy.keep D _ hDv (rr.hid D (by simp)).1).1
      refine useB e2 ry q2 fun b S3 μ3 H3 g3 r3 e3 q3 => ?_
      have hD3 : H3 D = some (.lst vs) := (g3.keep D _ hDy (ry.hid D (by simp)).1).1
      cases b with
      | true =>
        simp only [if_true] at q3 ⊢
        refine use e3 r3 q3 fun y S4 v4 μ4 H4 g4 r4 e4 rv4 q4 => ?_
        have hD4 : H4 D = some (.lst vs) := (g4.keep D _ hD3 (r3.hid D (by simp)).1).1
        have gAll : Grow μ1 H1 μ4 H4 := ((gg.trans gy).trans g3).trans g4
        have rvs4 : RVs X.K H4 (D :: η) μ4 acc vs := ((rvs.ext gy.ext).ext g3.ext).ext g4.ext
        refine ⟨vs, hD4, by rw [← rvs.length]; omega, hlt, acc ++ [y], vs ++ [v4], S4, μ4, grow_hidden gAll hD, rp_hset r4, upd_same, ?_, q4⟩
        exact (rvs4.append (.cons rv4 .nil)).ext (ext_hset r4)
      | false =>
        simp only [Bool.false_eq_true, if_false] at q3 ⊢
        exact ⟨hlt, acc, vs, S3, μ3, (gg.trans gy).trans g3, r3, hD3, (rvs.ext gy.ext).ext g3.ext, q3⟩
  · left
    have hi' : i = items.length := by omega
    subst hi'
    refine ⟨jstop (Nat.le_refl _), hQ _ _ ?_⟩
    have f := fin acc S' w
    cases m with
    | true =>
      refine ⟨_, _, _, g1.trans ⟨?_, fun a o e n => ⟨(gg.keep a o e n).1, fun z => ?_⟩, gg.tup, gg.frz⟩, rp_showCell hDη rr hDv rvs, .ref (by rw [← rr.len]; simp), f⟩
      · obtain ⟨more, rfl⟩ := gg.pre
        exact ⟨more ++ [D], by simp⟩
      · rcases List.mem_append.mp z with z | z
        · exact (gg.keep a o e n).2 z
        · exact ne_of_none e hD (by simpa using z)
    | false => exact ⟨_, _, _, g1.trans gg, rp_show rr, .lst (rr.hid D (by simp)).1 hDη hDv (rvs.ext ext_show), f⟩
end
end DL

namespace DL
open PySem PySem.Spec PyProof.Rows L2
section
variable {T : Tb} {G : Fns} {k : Nat} {N : List Str}
theorem bi_val (b : BI) : (∃ id, b.val = .builtin id) ∨ ∃ t, b.val = .type t := by cases b <;> first | exact .inl ⟨_, rfl⟩ | exact .inr ⟨_, rfl⟩
theorem pe_bi {X : Cx} {b : BI} {e : Expr} {es : List Expr} {t : TA} {p pos : Pos} {r : List V → Hp → VK → Prop} (hc : CallR X b.val r) (hg : Gl X b.name) (hm : X.mg b.name = none) (ha : PA X (e :: es) t)
    (he : starEach (e :: es) X.env = (false, eval e X.env) :: starEach es X.env) (hpl : (backTo pos (starEach es X.env)).any (·.1) = false) : PE X (.Call (.Name b.name p) (e :: es) [] pos) (tCB r t) := by
  have hb := b.boot
  rcases bi_val b with ⟨id, ev⟩ | ⟨id, ev⟩
  · rw [ev] at hc hb
    exact pe_callB hc hg hm hb ha b.nm.1 b.nm.2 he hpl
  · rw [ev] at hc hb
    exact pe_callTy hc hg hm hb ha b.nm.1 b.nm.2 he hpl
theorem pairs_of {c : CI} {e : Expr} (h : (!c.pairs || isTupE e) = true) : c.pairs = true → isTupE e = true := by
  cases hc : c.pairs <;> simp_all
theorem lits {α : Type} [BEq α] [LawfulBEq α] {o : Option α} {x : α} (h : (o == some x) = true) : o = some x := by simpa using h
theorem cut_whole {xs : List D} {n : Nat} {l u : Option Int} (h : xs.length = n) (z : HT.sIx n 0 l = 0 ∧ HT.sIx n n u = n) : cutD xs l u = xs := by
  unfold cutD
  rw [h, z.1, z.2, List.drop_zero, Nat.sub_zero, ← h]
  exact List.take_length
theorem okEs_cons {sc : SS} {cs : List CE} {e : Expr} {es : List Expr} (h : okEs T N sc cs (e :: es) = true) : (∃ c, okE T N sc c e = true) ∧ ∃ cs', okEs T N sc cs' es = true := by
  cases cs with
  | nil => simp [okEs] at h
  | cons c cs => simp only [okEs, Bool.and_eq_true] at h; exact ⟨⟨c, h.1⟩, cs, h.2⟩
theorem pa1 {X : Cx} {e : Expr} {T : TD} (h : PE X e (tOf X.K T)) (hs : starEach [e] X.env = (false, eval e X.env) :: starEach [] X.env) : PA X [e] (aOf X.K 1 (fun ρ S Q => T ρ S fun d S1 => Q [d] S1)) :=
  PA.imp (pa_cons h pa_nil hs) fun σ H Q ⟨η, μ, ρ, S, QD, hE, hR, hT, hQ⟩ => use hE hR hT fun d S1 v μ1 H1 g1 r1 e1 rv1 q1 => hQ _ _ ⟨[d], S1, μ1, g1, r1, .cons rv1 .nil, q1⟩ rfl
theorem pa2 {X : Cx} {e e' : Expr} {T T' : TD} (h : PE X e (tOf X.K T)) (h' : PE X e' (tOf X.K T')) (hs : starEach [e, e'] X.env = (false, eval e X.env) :: starEach [e'] X.env) (hs' : starEach [e'] X.env = (false, eval e' X.env) :: starEach [] X.env) :
    PA X [e, e'] (aOf X.K 2 (fun ρ S Q => T ρ S fun d S1 => T' ρ S1 fun d' S2 => Q [d, d'] S2)) :=
  PA.imp (pa_cons h (pa_cons h' pa_nil hs') hs) fun σ H Q ⟨η, μ, ρ, S, QD, hE, hR, hT, hQ⟩ => use hE hR hT fun d S1 v μ1 H1 g1 r1 e1 rv1 q1 => use e1 r1 q1 fun d2 S2 v2 μ2 H2 g2 r2 e2 rv2 q2 =>
    hQ _ _ ⟨[d, d2], S2, μ2, g1.trans g2, r2, .cons (rv1.ext g2.ext) (.cons rv2 .nil), q2⟩ rfl
theorem kes_len {sc : SS} : ∀ {cs : List CE} {ks : List Keyword}, okKs T N sc cs ks = true → cs.length = ks.length ∧ (kwNames ks).length = ks.length
  | [], [], _ => ⟨rfl, rfl⟩
  | [], _ :: _, h => by simp [okKs] at h
  | _ :: _, [], h => by simp [okKs] at h
  | c :: cs, ⟨n, e, p⟩ :: ks, h => by
    simp only [okKs, Bool.and_eq_true] at h
    obtain ⟨a, b⟩ := kes_len h.2
    exact ⟨by simp [a], by simp [kwNames, b]⟩
theorem sI_fold {sc : SS} {env : Env} (c : CI) (e : Expr) (h : okI T N sc c e = true) : ∀ x, foldedSetIterable e env x = pure x := by
  cases e <;> first | (intro x; rfl) | (exfalso; cases c <;> first | (simp [okI] at h; done) | (simp only [okI] at h; exact no_set h))
theorem one_of {ds : List D} {vs : List V} {K : PySem.W.Frag} {H : Hp} {η μ : List Addr} (r : RVs K H η μ ds vs) (h : vs.length = 1) : ∃ d v, ds = [d] ∧ vs = [v] ∧ RV K H η μ d v := by
  cases r with
  | nil => simp at h
  | cons a b => cases b with
    | nil => exact ⟨_, _, rfl, rfl, a⟩
    | cons c d => simp at h
theorem two_of {ds : List D} {vs : List V} {K : PySem.W.Frag} {H : Hp} {η μ : List Addr} (r : RVs K H η μ ds vs) (h : vs.length = 2) : ∃ d d' v v', ds = [d, d'] ∧ vs = [v, v'] ∧ RV K H η μ d v ∧ RV K H η μ d' v' := by
  cases r with
  | nil => simp at h
  | cons a b =>
    obtain ⟨d, v, rfl, rfl, r⟩ := one_of b (by simpa using h)
    exact ⟨_, _, _, _, rfl, rfl, a, r⟩
set_option maxHeartbeats 4000000 in
mutual
theorem sE : ∀ (c : CE) {X : Cx} {sc : SS} (e : Expr), Here T G k N X sc → okE T N sc c e = true → DE X e (wpE G c)
  | .var i, X, sc, e, hx, h => by
    cases e <;> first | (simp [okE] at h; done) | skip
    simp only [okE, Bool.and_eq_true] at h
    obtain ⟨⟨h1, h2⟩, h3⟩ := h
    refine DE.mk (pe_var (i := i) (by rw [hx.nm]; exact lits h2) (by rw [hx.scp]; exact vis_of h1) (dbg_of h3).1 (dbg_of h3).2) fun η μ ρ S σ H Q QD hE hR hT hQ => ?_
    simp only [wpE] at hT
    obtain ⟨d, e, q⟩ := hT
    obtain ⟨v, ev, rv⟩ := hE.get i d e
    exact ⟨v, ev, hQ _ _ (stay hR rv q)⟩
  | .con c, X, sc, e, hx, h => by
    cases e <;> first | (simp [okE] at h; done) | skip
    rename_i kk _ _
    simp only [okE] at h
    cases c <;> cases kk <;> first | (simp [okC] at h; done) | skip
    · exact DE.mk pe_non fun η μ ρ S σ H Q QD hE hR hT hQ => hQ _ _ (stay hR .non (by simpa only [wpE, CC.d] using hT))
    · simp only [okC, beq_iff_eq] at h; subst h
      exact DE.mk pe_bl fun η μ ρ S σ H Q QD hE hR hT hQ => hQ _ _ (stay hR (.bl _) (by simpa only [wpE, CC.d] using hT))
    · simp only [okC, beq_iff_eq] at h; subst h
      exact DE.mk pe_int fun η μ ρ S σ H Q QD hE hR hT hQ => hQ _ _ (stay hR (.int _) (by simpa only [wpE, CC.d] using hT))
    · simp only [okC, beq_iff_eq] at h; subst h
      exact DE.mk pe_str fun η μ ρ S σ H Q QD hE hR hT hQ => hQ _ _ (stay hR (.str _) (by simpa only [wpE, CC.d] using hT))
  | .glo j, X, sc, e, hx, h => by
    cases e <;> first | (simp [okE] at h; done) | skip
    simp only [okE, Bool.and_eq_true] at h
    obtain ⟨⟨h1, h2⟩, h3⟩ := h
    obtain ⟨u, v, hm, r, rv⟩ := hx.tab.gl j _ (lits h2)
    refine DE.mk (pe_glob (gl_of hx h1) hm r (dbg_of h3).1) fun η μ ρ S σ H Q QD hE hR hT hQ => hQ _ _ (stay hR (rv _ _ _) (by simpa only [wpE] using hT))
  | .bin op m a b, X, sc, e, hx, h => by
    cases e <;> first | (simp [okE] at h; done) | skip
    simp only [okE, Bool.and_eq_true, beq_iff_eq] at h
    obtain ⟨⟨h1, h2⟩, h3⟩ := h
    subst h1
    obtain ⟨r, ho, hr⟩ := binR (X := X) op
    refine DE.mk (pe_op ho (sE a _ hx h2) (sE b _ hx h3)) fun η μ ρ S σ H Q QD hE hR hT hQ => ?_
    simp only [wpE] at hT
    refine use hE hR hT fun d S1 v μ1 H1 g1 r1 e1 rv1 q1 => use e1 r1 q1 fun d2 S2 v2 μ2 H2 g2 r2 e2 rv2 q2 => ?_
    exact hr r2 (rv1.ext g2.ext) rv2 q2 fun v H' p => hQ _ _ ((p.from g2).from g1)
  | .neg a, X, sc, e, hx, h => by
    cases e <;> first | (simp [okE] at h; done) | skip
    rename_i op x p
    cases op <;> first | (simp [okE] at h; done) | skip
    simp only [okE] at h
    refine DE.mk (pe_un un_neg (sE a _ hx h)) fun η μ ρ S σ H Q QD hE hR hT hQ => ?_
    simp only [wpE] at hT
    refine use hE hR hT fun d S1 v μ1 H1 g1 r1 e1 rv1 q1 => ?_
    obtain ⟨i, rfl, q⟩ := q1
    cases rv1
    exact ⟨_, rfl, hQ _ _ ((stay r1 (.int _) q).from g1)⟩
  | .cmp op a b, X, sc, e, hx, h => by
    cases e <;> first | (simp [okE] at h; done) | skip
    rename_i l ops cs p
    match ops, cs, h with
    | [op'], [b'], h =>
      simp only [okE, Bool.and_eq_true, beq_iff_eq] at h
      obtain ⟨⟨h1, h2⟩, h3⟩ := h
      subst h1
      obtain ⟨r, ho, hr⟩ := cmpR (X := X) hx.room.units op
      refine DE.mk (pe_cmpR ho (sE a _ hx h2) (sE b _ hx h3) (mark_of h3)) fun η μ ρ S σ H Q QD hE hR hT hQ => ?_
      simp only [wpE] at hT
      refine use hE hR hT fun d S1 v μ1 H1 g1 r1 e1 rv1 q1 => use e1 r1 q1 fun d2 S2 v2 μ2 H2 g2 r2 e2 rv2 q2 => ?_
      exact hr r2 (rv1.ext g2.ext) rv2 q2 fun b hb => hQ _ _ (((stay r2 (.bl b) hb).from g2).from g1)
    | [], _, h => simp [okE] at h
    | [_], [], h => simp [okE] at h
    | [_], _ :: _ :: _, h => simp [okE] at h
    | _ :: _ :: _, _, h => simp [okE] at h
  | .chain op1 op2 a b c, X, sc, e, hx, h => by
    cases e <;> first | (simp [okE] at h; done) | skip
    rename_i l ops cs p
    match ops, cs, h with
    | [o1, o2], [b', c'], h =>
      simp only [okE, Bool.and_eq_true, beq_iff_eq] at h
      obtain ⟨⟨⟨⟨h1, h2⟩, h3⟩, h4⟩, h5⟩ := h
      subst h1; subst h2
      obtain ⟨r, ho, hr⟩ := cmpR (X := X) hx.room.units op1
      obtain ⟨r', ho', hr'⟩ := cmpR (X := X) hx.room.units op2
      refine DE.mk (pe_chain ho ho' (sE a _ hx h3) (sE b _ hx h4) (sE c _ hx h5) (by show behindInMarks op2 c' = false; exact mark_of h5)) fun η μ ρ S σ H Q QD hE hR hT hQ => ?_
      simp only [wpE] at hT
      refine use hE hR hT fun d S1 v μ1 H1 g1 r1 e1 rv1 q1 => use e1 r1 q1 fun d2 S2 v2 μ2 H2 g2 r2 e2 rv2 q2 => ?_
      refine hr r2 (rv1.ext g2.ext) rv2 q2 fun b hb => ⟨b, rfl, ?_⟩
      cases b with
      | true =>
        simp only [if_true] at hb ⊢
        refine use e2 r2 hb fun d3 S3 v3 μ3 H3 g3 r3 e3 rv3 q3 => ?_
        exact hr' r3 (rv2.ext g3.ext) rv3 q3 fun b hb => hQ _ _ ((((stay r3 (.bl b) hb).from g3).from g2).from g1)
      | false =>
        simp only [Bool.false_eq_true, if_false] at hb ⊢
        exact hQ _ _ (((stay r2 (.bl _) hb).from g2).from g1)
    | [], _, h => simp [okE] at h
    | [_], _, h => simp [okE] at h
    | [_, _], [], h => simp [okE] at h
    | [_, _], [_], h => simp [okE] at h
    | [_, _], _ :: _ :: _ :: _, h => simp [okE] at h
    | _ :: _ :: _ :: _, _, h => simp [okE] at h
  | .and_ a b, X, sc, e, hx, h => by
    cases e <;> first | (simp [okE] at h; done) | skip
    rename_i op vs p
    match op, vs, h with
    | .And, a' :: b' :: r, h =>
      simp only [okE, Bool.and_eq_true] at h
      have hb : PE X (.BoolOp .And (b' :: r) p) (tOf X.K (wpE G b)) := by
        cases r with
        | nil => exact pe_one (sE b _ hx h.2)
        | cons c' r' => exact sE b _ hx h.2
      refine DE.mk (pe_and (sE a _ hx h.1) hb) fun η μ ρ S σ H Q QD hE hR hT hQ => ?_
      simp only [wpE] at hT
      refine use hE hR hT fun d S1 v μ1 H1 g1 r1 e1 rv1 q1 => ?_
      obtain ⟨c, rfl, q⟩ := q1
      cases rv1
      refine ⟨c, rfl, ?_⟩
      cases c with
      | true =>
        simp only [if_true] at q ⊢
        exact ⟨_, _, _, _, _, e1, r1, q, fun v H' p => hQ _ _ (p.from g1)⟩
      | false =>
        simp only [Bool.false_eq_true, if_false] at q ⊢
        exact hQ _ _ ((stay r1 (.bl _) q).from g1)
    | .And, [], h => simp [okE] at h
    | .And, [_], h => simp [okE] at h
    | .Or, _, h => simp [okE] at h
  | .or_ a b, X, sc, e, hx, h => by
    cases e <;> first | (simp [okE] at h; done) | skip
    rename_i op vs p
    match op, vs, h with
    | .Or, a' :: b' :: r, h =>
      simp only [okE, Bool.and_eq_true] at h
      have hb : PE X (.BoolOp .Or (b' :: r) p) (tOf X.K (wpE G b)) := by
        cases r with
        | nil => exact pe_one (sE b _ hx h.2)
        | cons c' r' => exact sE b _ hx h.2
      refine DE.mk (pe_or (sE a _ hx h.1) hb) fun η μ ρ S σ H Q QD hE hR hT hQ => ?_
      simp only [wpE] at hT
      refine use hE hR hT fun d S1 v μ1 H1 g1 r1 e1 rv1 q1 => ?_
      obtain ⟨c, rfl, q⟩ := q1
      cases rv1
      refine ⟨c, rfl, ?_⟩
      cases c with
      | false =>
        simp only [Bool.false_eq_true, if_false] at q ⊢
        exact ⟨_, _, _, _, _, e1, r1, q, fun v H' p => hQ _ _ (p.from g1)⟩
      | true =>
        simp only [if_true] at q ⊢
        exact hQ _ _ ((stay r1 (.bl _) q).from g1)
    | .Or, [], h => simp [okE] at h
    | .Or, [_], h => simp [okE] at h
    | .And, _, h => simp [okE] at h
  | .not_ a, X, sc, e, hx, h => by
    cases e <;> first | (simp [okE] at h; done) | skip
    rename_i op x p
    cases op <;> first | (simp [okE] at h; done) | skip
    simp only [okE] at h
    refine DE.mk (pe_not (sE a _ hx h)) fun η μ ρ S σ H Q QD hE hR hT hQ => ?_
    simp only [wpE] at hT
    refine use hE hR hT fun d S1 v μ1 H1 g1 r1 e1 rv1 q1 => ?_
    obtain ⟨i, rfl, q⟩ := q1
    cases rv1
    exact ⟨_, rfl, hQ _ _ ((stay r1 (.bl _) q).from g1)⟩
  | .ite t a b, X, sc, e, hx, h => by
    cases e <;> first | (simp [okE] at h; done) | skip
    simp only [okE, Bool.and_eq_true] at h
    refine DE.mk (pe_ifExp (sB t _ hx h.1.1) (sE a _ hx h.1.2) (sE b _ hx h.2)) fun η μ ρ S σ H Q QD hE hR hT hQ => ?_
    simp only [wpE] at hT
    refine useB hE hR hT fun c S1 μ1 H1 g1 r1 e1 q1 => ?_
    cases c with
    | true =>
      simp only [if_true] at q1 ⊢
      exact ⟨_, _, _, _, _, e1, r1, q1, fun v H' p => hQ _ _ (p.from g1)⟩
    | false =>
      simp only [Bool.false_eq_true, if_false] at q1 ⊢
      exact ⟨_, _, _, _, _, e1, r1, q1, fun v H' p => hQ _ _ (p.from g1)⟩
  | .tup es, X, sc, e, hx, h => by
    cases e <;> first | (simp [okE] at h; done) | skip
    simp only [okE, Bool.and_eq_true, decide_eq_true_eq] at h
    refine DE.mk (pe_tup (sEs es _ hx h.1)) fun η μ ρ S σ H Q QD hE hR hT hQ => ?_
    simp only [wpE] at hT
    refine useA hE hR hT fun ds S1 vs μ1 H1 g1 r1 e1 rv1 hl q1 => ⟨?_, fun p hp => hQ _ _ ((new_tup r1 rv1 q1 p hp).from g1)⟩
    have : (1000 : Nat) ≤ sizeLine := by decide
    omega
  | .lst m es, X, sc, e, hx, h => by
    cases e <;> first | (simp [okE] at h; done) | skip
    simp only [okE, Bool.and_eq_true, decide_eq_true_eq] at h
    refine DE.mk (pe_lst (sEs es _ hx h.1)) fun η μ ρ S σ H Q QD hE hR hT hQ => ?_
    simp only [wpE] at hT
    refine useA hE hR hT fun ds S1 vs μ1 H1 g1 r1 e1 rv1 hl q1 => ⟨?_, fun p hp => hQ _ _ ((new_lst r1 rv1 q1 p hp).from g1)⟩
    have : (1000 : Nat) ≤ sizeLine := by decide
    omega
  | .ix a i, X, sc, e, hx, h => by
    cases e <;> first | (simp [okE] at h; done) | skip
    simp only [okE, Bool.and_eq_true] at h
    refine DE.mk (pe_ix ix_seq (sE a _ hx h.1.1) (sE i _ hx h.1.2) (plain_of h.2)) fun η μ ρ S σ H Q QD hE hR hT hQ => ?_
    simp only [wpE] at hT
    refine use hE hR hT fun d S1 v μ1 H1 g1 r1 e1 rv1 q1 => use e1 r1 q1 fun d2 S2 v2 μ2 H2 g2 r2 e2 rv2 q2 => ?_
    exact ix_of r2 (rv1.ext g2.ext) rv2 q2 fun d v rv q => hQ _ _ (((stay r2 rv q).from g2).from g1)
  | .sl m a lo hi, X, sc, e, hx, h => by
    cases e <;> first | (simp [okE] at h; done) | skip
    rename_i o s p
    cases s <;> first | (simp [okE] at h; done) | skip
    rename_i lo' hi' st p2
    cases st <;> first | (simp [okE] at h; done) | skip
    simp only [okE, Bool.and_eq_true] at h
    refine DE.mk (pe_slice (sl_list.or sl_tupA) (sE a _ hx h.1.1) (sO lo _ hx h.1.2) (sO hi _ hx h.2)) fun η μ ρ S σ H Q QD hE hR hT hQ => ?_
    simp only [wpE] at hT
    refine use hE hR hT fun d S1 v μ1 H1 g1 r1 e1 rv1 q1 => useB e1 r1 q1 fun l S2 μ2 H2 g2 r2 e2 q2 => useB e2 r2 q2 fun u S3 μ3 H3 g3 r3 e3 q3 => ?_
    have rv3 := (rv1.ext g2.ext).ext g3.ext
    have hQ' : ∀ v H', Post X.K η μ3 H3 QD v H' → Q v H' := fun v H' p => hQ _ _ (((p.from g3).from g2).from g1)
    simp only [slD] at q3
    split at q3
    · cases rv3 with
      | tup hh qq =>
        refine .inr ⟨_, _, rfl, hh, fun z => ?_, fun _ p hp => hQ' _ _ (new_tup r3 (cut_of qq l u) q3 p hp)⟩
        refine hQ' _ _ (stay r3 (.tup hh qq) ?_)
        rw [cut_whole qq.length z] at q3
        exact q3
    · obtain ⟨xs, e4, hn⟩ := q3
      obtain ⟨a4, vs4, rfl, h4, q4⟩ := lst_of r3 rv3 e4
      exact .inl ⟨_, _, rfl, .inl (.inl h4), fun p hp => hQ' _ _ (new_lst r3 (cut_of q4 l u) hn p hp)⟩
  | .call j es, X, sc, e, hx, h => by
    cases e <;> first | (simp [okE] at h; done) | skip
    rename_i f as ks p
    cases f <;> first | (simp [okE] at h; done) | skip
    cases as with
    | nil => simp [okE] at h
    | cons e' es' =>
      cases ks with
      | cons _ _ => simp [okE] at h
      | nil =>
        simp only [okE, Bool.and_eq_true] at h
        obtain ⟨⟨⟨h1, h2⟩, h3⟩, h4⟩ := h
        split at h4
        · rename_i i hi
          simp only [beq_iff_eq] at h4
          subst h4
          obtain ⟨f, fd, F, hm, hk, hb, _⟩ := hx.tab.fn j i hi
          obtain ⟨⟨c0, h31⟩, _⟩ := okEs_cons h3
          refine DE.mk (pe_callG F hx.room hx.gd (gl_of hx h1) hm hk hb (sEs es _ hx h3) pk_nil rfl rfl (dbg_of h2).1 (star_of h31) (by rw [stars_of h3]; rfl)) fun η μ ρ S σ H Q QD hE hR hT hQ => ?_
          simp only [wpE] at hT
          refine useA hE hR hT fun ds S1 vs μ1 H1 g1 r1 e1 rv1 hl q1 => ?_
          exact ⟨η, μ1, S1, ds, QD, r1, rv1, q1, fun v H' p => hQ _ _ (p.from g1)⟩
        · cases h4
  | .callK j es kes perm, X, sc, e, hx, h => by
    cases e <;> first | (simp [okE] at h; done) | skip
    rename_i f as ks p
    cases f <;> first | (simp [okE] at h; done) | skip
    simp only [okE, Bool.and_eq_true] at h
    obtain ⟨⟨⟨⟨h1, h2⟩, h3⟩, h5⟩, h4⟩ := h
    split at h4
    · rename_i i hi
      simp only [Bool.and_eq_true, beq_iff_eq, List.any_eq_true] at h4
      obtain ⟨h6, pp, hp, h7, h8⟩ := h4
      subst h6; subst h8
      obtain ⟨f, fd, F, hm, hk, _, hb⟩ := hx.tab.fn j i hi
      have K1 := kws_of (pos := p) (env := X.env) h5
      have hks : (backToKw p (keywordEach ks X.env)).filterMap (·.1) = pp.1 := filterMap_names _ _ (by rw [K1.2.2, h7])
      have hkl : kes.length = pp.1.length := by
        obtain ⟨z1, z2⟩ := kes_len h5
        rw [← h7, List.length_map] at z2
        omega
      cases as with
      | nil =>
        cases es with
        | cons _ _ => simp [okEs] at h3
        | nil =>
          refine DE.mk (pe_callG0 F hx.room hx.gd (gl_of hx h1) hm hk (hb pp hp) (sKs kes _ hx h5) K1.1 hks (dbg_of h2).1 (by rw [K1.2.1]; rfl)) fun η μ ρ S σ H Q QD hE hR hT hQ => ?_
          simp only [wpE, wpEs] at hT
          refine useA hE hR hT fun ds S1 vs μ1 H1 g1 r1 e1 rv1 hl q1 => ?_
          refine ⟨η, μ1, S1, _, QD, r1, ?_, q1, fun v H' p => hQ _ _ (p.from g1)⟩
          unfold gK
          rw [if_pos (by rw [hl]; exact hkl)]
          exact RVs.append .nil (perm_of rv1 pp.2)
      | cons e' es' =>
        obtain ⟨⟨c0, h31⟩, _⟩ := okEs_cons h3
        refine DE.mk (pe_callG F hx.room hx.gd (gl_of hx h1) hm hk (hb pp hp) (sEs es _ hx h3) (sKs kes _ hx h5) K1.1 hks (dbg_of h2).1 (star_of h31) (by rw [stars_of h3, K1.2.1]; rfl)) fun η μ ρ S σ H Q QD hE hR hT hQ => ?_
        simp only [wpE] at hT
        refine useA hE hR hT fun ds S1 vs μ1 H1 g1 r1 e1 rv1 hl q1 => useA e1 r1 q1 fun ds2 S2 vs2 μ2 H2 g2 r2 e2 rv2 hl2 q2 => ?_
        refine ⟨η, μ2, S2, _, QD, r2, ?_, q2, fun v H' p => hQ _ _ ((p.from g2).from g1)⟩
        unfold gK
        rw [if_pos (by rw [hl2]; exact hkl)]
        exact (rv1.ext g2.ext).append (perm_of rv2 pp.2)
    · cases h4
  | .bi b m es, X, sc, e, hx, h => by
    cases e <;> first | (simp [okE] at h; done) | skip
    rename_i f as ks p
    cases f <;> first | (simp [okE] at h; done) | skip
    cases as with
    | nil => simp [okE] at h
    | cons e' es' =>
      cases ks with
      | cons _ _ => simp [okE] at h
      | nil =>
        simp only [okE, Bool.and_eq_true, beq_iff_eq] at h
        obtain ⟨⟨⟨h1, h2⟩, h4⟩, h3⟩ := h
        subst h2
        obtain ⟨⟨c0, h31⟩, cs0, h32⟩ := okEs_cons h3
        obtain ⟨r, hc, hr⟩ := biR (X := X) hx.calm hx.gd hx.room.units b
        refine DE.mk (pe_bi hc (gl_of hx h1) (hx.tab.bi _ (by simpa using h4)) (sEs es _ hx h3) (star_of h31) (stars_of h32)) fun η μ ρ S σ H Q QD hE hR hT hQ => ?_
        simp only [wpE] at hT
        refine useA hE hR hT fun ds S1 vs μ1 H1 g1 r1 e1 rv1 hl q1 => ?_
        exact hr r1 rv1 q1 fun v H' p => hQ _ _ (p.from g1)
  | .isi t a, X, sc, e, hx, h => by
    cases e <;> first | (simp [okE] at h; done) | skip
    rename_i f as ks p
    cases f <;> first | (simp [okE] at h; done) | skip
    match as, ks, h with
    | [a', b'], [], h =>
      cases b' <;> first | (simp [okE] at h; done) | skip
      rename_i y py
      simp only [okE, Bool.and_eq_true, beq_iff_eq] at h
      obtain ⟨⟨⟨⟨⟨⟨h1, h2⟩, h3⟩, h4⟩, h5⟩, h6⟩, h7⟩ := h
      subst h1; subst h4
      have hs : starEach [a', .Name t.nm py] X.env = (false, eval a' X.env) :: starEach [.Name t.nm py] X.env := star_of h7
      have hty : PE X (.Name t.nm py) (tC (.ty (tyS t))) := by
        have hb := hx.tab.bi _ (by simpa using h6)
        cases t <;> exact pe_bltn (u := .type _) (gl_of hx h5) hb (by decide +kernel) rfl
      refine DE.mk (pe_callB call_isi (gl_of hx h2) (hx.tab.bi _ (by simpa using h3)) (by decide +kernel) (pa_cons (sE a a' hx h7) (pa_cons hty pa_nil rfl) hs) (by decide) (by decide) hs rfl) fun η μ ρ S σ H Q QD hE hR hT hQ => ?_
      simp only [wpE] at hT
      refine use hE hR hT fun d S1 v μ1 H1 g1 r1 e1 rv1 q1 => ?_
      obtain ⟨ty, h8, h9, q⟩ := ty_of r1 rv1 q1
      refine ⟨v, _, _, _, _, rfl, .ty _, h8, kit_ty h9, hQ _ _ ((stay r1 (.bl _) q).from g1)⟩
    | [], _, h => simp [okE] at h
    | [_], _, h => simp [okE] at h
    | _ :: _ :: _ :: _, _, h => simp [okE] at h
    | [_, _], _ :: _, h => simp [okE] at h
  | .lc m elt tg it ifs own, X, sc, e, hx, h => by
    cases e <;> first | (simp [okE] at h; done) | skip
    rename_i elt' gs scope p
    match gs, h with
    | [⟨tg', it', ifs', as⟩], h =>
      by_cases ha : as = 0
      · subst ha
        simp only [okE, Bool.and_eq_true] at h
        obtain ⟨⟨⟨⟨⟨⟨⟨⟨h1, h2⟩, h3⟩, h4⟩, h5⟩, h6⟩, h7⟩, h8⟩, h9⟩ := h
        have ok := blkOk_by h1
        have hok : BlkOk X.N X.env.scope scope (own.map fun i => (N.getD i "", i)) := by rw [hx.nm, hx.scp]; exact ok
        have hown : (own.map fun i => ((N.getD i "", i) : Str × Nat)).map (·.2) = own := by rw [List.map_map]; exact List.map_id _
        have P := pe_lc (pos := p) (elt := elt') (ifs := ifs') (tg := tg') (iter := it') (scope := scope) (g := gS X.K tg) (tt := bOf X.K (wpBs G ifs)) (te := tOf X.K (wpE G elt)) hx.calm (by rw [hx.nm]; exact hx.nd) (sI it _ _ hx h6 (pairs_of h9)) hok (fun s H C cl fp => sT tg _ (hx.blk ok.kind s H C cl fp) h3 h4) (fun s H C cl fp => sBs ifs _ (hx.blk ok.kind s H C cl fp) h7 (by simpa using h8))
          (fun s H C cl fp => sE elt _ (hx.blk ok.kind s H C cl fp) h2) (sI_fold it _ h6)
        rw [hown] at P
        refine DE.mk P fun η μ ρ S σ H Q QD hE hR hT hQ => ?_
        exact lc_of hE hR h4 (fun i hi => by simpa using List.all_eq_true.mp h5 i hi) hT hQ
      · simp [okE, ha] at h
    | [], h => simp [okE] at h
    | _ :: _ :: _, h => simp [okE] at h
theorem sEs : ∀ (cs : List CE) {X : Cx} {sc : SS} (es : List Expr), Here T G k N X sc → okEs T N sc cs es = true → PA X es (aOf X.K cs.length (wpEs G cs))
  | [], X, sc, es, hx, h => by
    cases es with
    | cons _ _ => simp [okEs] at h
    | nil =>
      refine PA.imp pa_nil fun σ H Q ⟨η, μ, ρ, S, QD, hE, hR, hT, hQ⟩ => ?_
      simp only [wpEs] at hT
      exact hQ [] H ⟨[], S, μ, .refl, hR, .nil, hT⟩ rfl
  | c :: cs, X, sc, es, hx, h => by
    cases es with
    | nil => simp [okEs] at h
    | cons e es =>
      simp only [okEs, Bool.and_eq_true] at h
      refine PA.imp (pa_cons (sE c e hx h.1) (sEs cs es hx h.2) (star_of h.1)) fun σ H Q ⟨η, μ, ρ, S, QD, hE, hR, hT, hQ⟩ => ?_
      simp only [wpEs] at hT
      refine use hE hR hT fun d S1 v μ1 H1 g1 r1 e1 rv1 q1 => useA e1 r1 q1 fun ds S2 vs μ2 H2 g2 r2 e2 rv2 hl q2 => ?_
      exact hQ _ _ ⟨d :: ds, S2, μ2, g1.trans g2, r2, .cons (rv1.ext g2.ext) rv2, q2⟩ (by simp [hl])
theorem sKs : ∀ (cs : List CE) {X : Cx} {sc : SS} (ks : List Keyword), Here T G k N X sc → okKs T N sc cs ks = true → PK X ks (aOf X.K cs.length (wpEs G cs))
  | [], X, sc, es, hx, h => by
    cases es with
    | cons _ _ => simp [okKs] at h
    | nil =>
      refine PK.imp pk_nil fun σ H Q ⟨η, μ, ρ, S, QD, hE, hR, hT, hQ⟩ => ?_
      simp only [wpEs] at hT
      exact hQ [] H ⟨[], S, μ, .refl, hR, .nil, hT⟩ rfl
  | c :: cs, X, sc, es, hx, h => by
    cases es with
    | nil => simp [okKs] at h
    | cons e es =>
      obtain ⟨n, e, p⟩ := e
      simp only [okKs, Bool.and_eq_true] at h
      refine PK.imp (pk_cons (sE c e hx h.1.2) (sKs cs es hx h.2)) fun σ H Q ⟨η, μ, ρ, S, QD, hE, hR, hT, hQ⟩ => ?_
      simp only [wpEs] at hT
      refine use hE hR hT fun d S1 v μ1 H1 g1 r1 e1 rv1 q1 => useA e1 r1 q1 fun ds S2 vs μ2 H2 g2 r2 e2 rv2 hl q2 => ?_
      exact hQ _ _ ⟨d :: ds, S2, μ2, g1.trans g2, r2, .cons (rv1.ext g2.ext) rv2, q2⟩ (by simp [hl])
theorem sO : ∀ (c : CO) {X : Cx} {sc : SS} (e : Option Expr), Here T G k N X sc → okO T N sc c e = true → PO X e (bOf X.K (wpO G c))
  | .no, X, sc, e, hx, h => by
    cases e with
    | some _ => simp [okO] at h
    | none =>
      refine PO.imp po_none fun σ H Q ⟨η, μ, ρ, S, QD, hE, hR, hT, hQ⟩ => ?_
      simp only [wpO] at hT
      exact hQ none H ⟨S, μ, .refl, hR, hT⟩
  | .yes c, X, sc, e, hx, h => by
    cases e with
    | none => simp [okO] at h
    | some e =>
      simp only [okO] at h
      refine PO.imp (po_some (sE c e hx h)) fun σ H Q ⟨η, μ, ρ, S, QD, hE, hR, hT, hQ⟩ => ?_
      simp only [wpO] at hT
      refine use hE hR hT fun d S1 v μ1 H1 g1 r1 e1 rv1 q1 => ?_
      obtain ⟨i, rfl, q⟩ := q1
      cases rv1
      exact ⟨i, rfl, hQ _ _ ⟨S1, μ1, g1, r1, q⟩⟩
theorem sB : ∀ (c : CB) {X : Cx} {sc : SS} (e : Expr), Here T G k N X sc → okB T N sc c e = true → PT X e (bOf X.K (wpB G c))
  | .cand a b, X, sc, e, hx, h => by
    cases e <;> first | (simp [okB] at h; done) | skip
    rename_i op vs p
    match op, vs, h with
    | .And, a' :: b' :: r, h =>
      simp only [okB, Bool.and_eq_true] at h
      have hb : PW X (.BoolOp .And (b' :: r) p) (bOf X.K (wpB G b)) := by
        cases r with
        | nil => exact pw_and1 (sB b _ hx h.2)
        | cons c' r' => exact bool_ext (sB b _ hx h.2)
      refine PT.imp (pw_and (sB a _ hx h.1) hb).pt fun σ H Q ⟨η, μ, ρ, S, QD, hE, hR, hT, hQ⟩ => ?_
      simp only [wpB] at hT
      refine useB hE hR hT fun c S1 μ1 H1 g1 r1 e1 q1 => ?_
      cases c with
      | true =>
        simp only [if_true] at q1 ⊢
        exact ⟨_, _, _, _, _, e1, r1, q1, fun v H' ⟨S2, μ2, g2, r2, q2⟩ => hQ _ _ ⟨S2, μ2, g1.trans g2, r2, q2⟩⟩
      | false =>
        simp only [Bool.false_eq_true, if_false] at q1 ⊢
        exact hQ _ _ ⟨S1, μ1, g1, r1, q1⟩
    | .And, [], h => simp [okB] at h
    | .And, [_], h => simp [okB] at h
    | .Or, _, h => simp [okB] at h
  | .cor a b, X, sc, e, hx, h => by
    cases e <;> first | (simp [okB] at h; done) | skip
    rename_i op vs p
    match op, vs, h with
    | .Or, a' :: b' :: r, h =>
      simp only [okB, Bool.and_eq_true] at h
      have hb : PW X (.BoolOp .Or (b' :: r) p) (bOf X.K (wpB G b)) := by
        cases r with
        | nil => exact pw_or1 (sB b _ hx h.2)
        | cons c' r' => exact bool_ext (sB b _ hx h.2)
      refine PT.imp (pw_or (sB a _ hx h.1) hb).pt fun σ H Q ⟨η, μ, ρ, S, QD, hE, hR, hT, hQ⟩ => ?_
      simp only [wpB] at hT
      refine useB hE hR hT fun c S1 μ1 H1 g1 r1 e1 q1 => ?_
      cases c with
      | false =>
        simp only [Bool.false_eq_true, if_false] at q1 ⊢
        exact ⟨_, _, _, _, _, e1, r1, q1, fun v H' ⟨S2, μ2, g2, r2, q2⟩ => hQ _ _ ⟨S2, μ2, g1.trans g2, r2, q2⟩⟩
      | true =>
        simp only [if_true] at q1 ⊢
        exact hQ _ _ ⟨S1, μ1, g1, r1, q1⟩
    | .Or, [], h => simp [okB] at h
    | .Or, [_], h => simp [okB] at h
    | .And, _, h => simp [okB] at h
  | .cnot a, X, sc, e, hx, h => by
    cases e <;> first | (simp [okB] at h; done) | skip
    rename_i op x p
    cases op <;> first | (simp [okB] at h; done) | skip
    simp only [okB] at h
    refine PT.imp (pt_not (sB a _ hx h)) fun σ H Q ⟨η, μ, ρ, S, QD, hE, hR, hT, hQ⟩ => ?_
    simp only [wpB] at hT
    exact useB hE hR hT fun c S1 μ1 H1 g1 r1 e1 q1 => hQ _ _ ⟨S1, μ1, g1, r1, q1⟩
  | .ccmp op a b, X, sc, e, hx, h => by
    cases e <;> first | (simp [okB] at h; done) | skip
    rename_i l ops cs p
    match ops, cs, h with
    | [op'], [b'], h =>
      simp only [okB, Bool.and_eq_true, beq_iff_eq] at h
      obtain ⟨⟨h1, h2⟩, h3⟩ := h
      subst h1
      obtain ⟨r, ho, hr⟩ := cmpR (X := X) hx.room.units op
      refine PT.imp (pt_cmpR ho (sE a _ hx h2) (sE b _ hx h3) (mark_of h3)) fun σ H Q ⟨η, μ, ρ, S, QD, hE, hR, hT, hQ⟩ => ?_
      simp only [wpB] at hT
      refine use hE hR hT fun d S1 v μ1 H1 g1 r1 e1 rv1 q1 => use e1 r1 q1 fun d2 S2 v2 μ2 H2 g2 r2 e2 rv2 q2 => ?_
      exact hr r2 (rv1.ext g2.ext) rv2 q2 fun b hb => ⟨b, rfl, hQ _ _ ⟨S2, μ2, g1.trans g2, r2, hb⟩⟩
    | [], _, h => simp [okB] at h
    | [_], [], h => simp [okB] at h
    | [_], _ :: _ :: _, h => simp [okB] at h
    | _ :: _ :: _, _, h => simp [okB] at h
  | .cchain op1 op2 a b c, X, sc, e, hx, h => by
    cases e <;> first | (simp [okB] at h; done) | skip
    rename_i l ops cs p
    match ops, cs, h with
    | [o1, o2], [b', c'], h =>
      simp only [okB, Bool.and_eq_true, beq_iff_eq] at h
      obtain ⟨⟨⟨⟨h1, h2⟩, h3⟩, h4⟩, h5⟩ := h
      subst h1; subst h2
      obtain ⟨r, ho, hr⟩ := cmpR (X := X) hx.room.units op1
      obtain ⟨r', ho', hr'⟩ := cmpR (X := X) hx.room.units op2
      refine PT.imp (pt_chain ho ho' (sE a _ hx h3) (sE b _ hx h4) (sE c _ hx h5) (by show behindInMarks op2 c' = false; exact mark_of h5)) fun σ H Q ⟨η, μ, ρ, S, QD, hE, hR, hT, hQ⟩ => ?_
      simp only [wpB] at hT
      refine use hE hR hT fun d S1 v μ1 H1 g1 r1 e1 rv1 q1 => use e1 r1 q1 fun d2 S2 v2 μ2 H2 g2 r2 e2 rv2 q2 => ?_
      refine hr r2 (rv1.ext g2.ext) rv2 q2 fun b hb => ⟨b, rfl, ?_⟩
      cases b with
      | true =>
        simp only [if_true] at hb ⊢
        refine use e2 r2 hb fun d3 S3 v3 μ3 H3 g3 r3 e3 rv3 q3 => ?_
        exact hr' r3 (rv2.ext g3.ext) rv3 q3 fun b hb => ⟨b, rfl, hQ _ _ ⟨S3, μ3, (g1.trans g2).trans g3, r3, hb⟩⟩
      | false =>
        simp only [Bool.false_eq_true, if_false] at hb ⊢
        exact ⟨false, rfl, hQ _ _ ⟨S2, μ2, g1.trans g2, r2, hb⟩⟩
    | [], _, h => simp [okB] at h
    | [_], _, h => simp [okB] at h
    | [_, _], [], h => simp [okB] at h
    | [_, _], [_], h => simp [okB] at h
    | [_, _], _ :: _ :: _ :: _, h => simp [okB] at h
    | _ :: _ :: _ :: _, _, h => simp [okB] at h
  | .cval c, X, sc, e, hx, h => by
    cases e <;> first | (simp [okB] at h; done) | skip
    all_goals
      simp only [okB] at h
      refine PT.imp (pt_truth (sE c _ hx h) (by intro _; rfl)) fun σ H Q ⟨η, μ, ρ, S, QD, hE, hR, hT, hQ⟩ => ?_
      simp only [wpB] at hT
      refine use hE hR hT fun d S1 v μ1 H1 g1 r1 e1 rv1 q1 => ?_
      obtain ⟨b, h1, h2⟩ := tru_of r1 rv1 q1
      exact ⟨b, h1, hQ _ _ ⟨S1, μ1, g1, r1, h2⟩⟩
theorem sBs : ∀ (cs : List CB) {X : Cx} {sc : SS} (es : List Expr), Here T G k N X sc → okBs T N sc cs es = true → cs.length ≤ 1 → PTs X es (bOf X.K (wpBs G cs))
  | [], X, sc, es, hx, h, _ => by
    cases es with
    | cons _ _ => simp [okBs] at h
    | nil =>
      refine PTs.imp pts_nil fun σ H Q ⟨η, μ, ρ, S, QD, hE, hR, hT, hQ⟩ => ?_
      simp only [wpBs] at hT
      exact hQ true H ⟨S, μ, .refl, hR, hT⟩
  | [c], X, sc, es, hx, h, _ => by
    cases es with
    | nil => simp [okBs] at h
    | cons e es =>
      cases es with
      | cons _ _ => simp [okBs] at h
      | nil =>
        simp only [okBs, Bool.and_true] at h
        refine PTs.imp (pts_one (sB c e hx h)) fun σ H Q ⟨η, μ, ρ, S, QD, hE, hR, hT, hQ⟩ => ?_
        simp only [wpBs] at hT
        refine useB hE hR hT fun b S1 μ1 H1 g1 r1 e1 q1 => hQ _ _ ⟨S1, μ1, g1, r1, ?_⟩
        cases b <;> exact q1
  | _ :: _ :: _, X, sc, es, hx, h, hl => by simp at hl
theorem sT : ∀ (t : CT) {X : Cx} {sc : SS} (e : Expr), Here T G k N X sc → okT T N sc t e = true → CT.simple t = true → PG X e (gS X.K t)
  | .name i, X, sc, e, hx, h, _ => by
    cases e <;> first | (simp [okT] at h; done) | skip
    simp only [okT, Bool.and_eq_true] at h
    obtain ⟨h1, h2⟩ := loc_of h.1
    refine pg_name (i := i) (by rw [hx.nm]; exact hx.nd) (by rw [hx.nm]; exact lits h.2) (by rw [hx.scp]; exact h1) ?_
    rcases h2 with h2 | h2
    · exact .inl (hx.fn _ h2)
    · exact .inr (by rw [hx.scp]; exact h2)
  | .tup ts, X, sc, e, hx, h, hs => by
    cases e <;> first | (simp [okT] at h; done) | skip
    simp only [okT] at h
    obtain ⟨a, b, c⟩ := sTs ts _ hx h hs
    exact pg_tup hx.calm a b c
  | .sub _ _, X, sc, e, hx, h, hs => by simp [CT.simple] at hs
theorem sTs : ∀ (ts : List CT) {X : Cx} {sc : SS} (es : List Expr), Here T G k N X sc → okTs T N sc ts es = true → CT.simple.simples ts = true → PGs X es (gSs X.K ts) ∧ (assignEach es X.env).length = ts.length ∧ (assignEach es X.env).findIdx? (·.1) = none
  | [], X, sc, es, hx, h, _ => by
    cases es with
    | cons _ _ => simp [okTs] at h
    | nil => exact ⟨pgs_nil, rfl, rfl⟩
  | t :: ts, X, sc, es, hx, h, hs => by
    cases es with
    | nil => simp [okTs] at h
    | cons e es =>
      simp only [okTs, Bool.and_eq_true] at h
      simp only [CT.simple.simples, Bool.and_eq_true] at hs
      obtain ⟨a, b, c⟩ := sTs ts es hx h.2 hs.2
      have he : assignEach (e :: es) X.env = (false, assign e X.env) :: assignEach es X.env := by
        cases e <;> first | rfl | (exfalso; cases t <;> simp [okT] at h)
      refine ⟨pgs_cons (sT t e hx h.1 hs.1) a (by rw [he]; rfl), by rw [he]; simp [b], ?_⟩
      rw [he, List.findIdx?_cons]
      simp [c]
theorem sI : ∀ (c : CI) {X : Cx} {sc : SS} (tg e : Expr), Here T G k N X sc → okI T N sc c e = true → (c.pairs = true → isTupE tg = true) → PI X tg e (iOf X.K (wpI G c))
  | .seq c, X, sc, tg, e, hx, h, _ => by
    simp only [okI] at h
    refine PI.imp (pi_seq (sE c e hx h)) fun σ H R ⟨η, μ, ρ, S, RD, hE, hR, hT, hJ⟩ => ?_
    simp only [wpI] at hT
    refine use hE hR hT fun d S1 v μ1 H1 g1 r1 e1 rv1 q1 => ?_
    exact seq_it r1 rv1 q1 fun J items I q jok => hJ J H1 items I S1 μ1 g1 r1 q jok
  | .range1 a, X, sc, tg, e, hx, h, _ => by
    cases e <;> first | (simp [okI] at h; done) | skip
    rename_i f as ks p
    cases f <;> first | (simp [okI] at h; done) | skip
    match as, ks, h with
    | [a'], [], h =>
      simp only [okI, Bool.and_eq_true, beq_iff_eq] at h
      obtain ⟨⟨⟨h1, h2⟩, h3⟩, h4⟩ := h
      subst h1
      refine PI.imp (pi_range1 (gl_of hx h2) (hx.tab.bi _ (by simpa using h3)) (pa1 (sE a a' hx h4) (star_of h4)) (by rw [star_of h4]; rfl)) fun σ H R ⟨η, μ, ρ, S, RD, hE, hR, hT, hJ⟩ => ?_
      simp only [wpI] at hT
      refine useA (QD := fun ds S1 => ∃ j, ds.headD .non = .int j ∧ Sm j ∧ RD (rangeD 0 j) (fun _ => True) S1) hE hR hT fun ds S1 vs μ1 H1 g1 r1 e1 rv1 hl q1 => ?_
      obtain ⟨d, v, rfl, rfl, rv⟩ := one_of rv1 hl
      obtain ⟨j, e0, s, q⟩ := q1
      rw [List.headD_cons] at e0
      subst e0
      cases rv
      exact ⟨j, rfl, s.1, s.2, hJ _ H1 _ _ S1 μ1 g1 r1 q (jok_range (by simp))⟩
    | [], _, h => simp [okI] at h
    | _ :: _ :: _, _, h => simp [okI] at h
    | [_], _ :: _, h => simp [okI] at h
  | .range2 a b, X, sc, tg, e, hx, h, _ => by
    cases e <;> first | (simp [okI] at h; done) | skip
    rename_i f as ks p
    cases f <;> first | (simp [okI] at h; done) | skip
    match as, ks, h with
    | [a', b'], [], h =>
      simp only [okI, Bool.and_eq_true, beq_iff_eq] at h
      obtain ⟨⟨⟨⟨h1, h2⟩, h3⟩, h4⟩, h5⟩ := h
      subst h1
      refine PI.imp (pi_range2 (gl_of hx h2) (hx.tab.bi _ (by simpa using h3)) (pa2 (sE a a' hx h4) (sE b b' hx h5) (star_of h4) (star_of h5)) (by rw [star_of h4, star_of h5]; rfl) (by rw [star_of h5]; rfl)) fun σ H R ⟨η, μ, ρ, S, RD, hE, hR, hT, hJ⟩ => ?_
      simp only [wpI] at hT
      refine useA (QD := fun ds S1 => ∃ i j, ds.headD .non = .int i ∧ ds.tail.headD .non = .int j ∧ Sm i ∧ Sm j ∧ RD (rangeD i j) (fun _ => True) S1) hE hR hT fun ds S1 vs μ1 H1 g1 r1 e1 rv1 hl q1 => ?_
      obtain ⟨d, d', v, v', rfl, rfl, rv, rv2⟩ := two_of rv1 hl
      obtain ⟨i, j, e0, e2, s, s2, q⟩ := q1
      rw [List.headD_cons] at e0
      rw [List.tail_cons, List.headD_cons] at e2
      subst e0; subst e2
      cases rv; cases rv2
      exact ⟨i, j, rfl, ⟨s.1, s.2, s2.1, s2.2⟩, hJ _ H1 _ _ S1 μ1 g1 r1 q (jok_range rfl)⟩
    | [], _, h => simp [okI] at h
    | [_], _, h => simp [okI] at h
    | _ :: _ :: _ :: _, _, h => simp [okI] at h
    | [_, _], _ :: _, h => simp [okI] at h
  | .range3 a b c, X, sc, tg, e, hx, h, _ => by
    cases e <;> first | (simp [okI] at h; done) | skip
    rename_i f as ks p
    cases f <;> first | (simp [okI] at h; done) | skip
    match as, ks, h with
    | [a', b', c'], [], h =>
      simp only [okI, Bool.and_eq_true, beq_iff_eq] at h
      obtain ⟨⟨⟨⟨⟨h1, h2⟩, h3⟩, h4⟩, h5⟩, h6⟩ := h
      subst h1
      refine PI.imp (pi_range3 (gl_of hx h2) (hx.tab.bi _ (by simpa using h3)) (pa_cons (sE a a' hx h4) (pa_cons (sE b b' hx h5) (pa_cons (sE c c' hx h6) pa_nil (star_of h6)) (star_of h5)) (star_of h4)) (star_of h4) (by rw [star_of h5, star_of h6]; rfl)) fun σ H R ⟨η, μ, ρ, S, RD, hE, hR, hT, hJ⟩ => ?_
      simp only [wpI] at hT
      refine use hE hR hT fun d S1 v μ1 H1 g1 r1 e1 rv1 q1 => use e1 r1 q1 fun d2 S2 v2 μ2 H2 g2 r2 e2 rv2 q2 => use e2 r2 q2 fun d3 S3 v3 μ3 H3 g3 r3 e3 rv3 q3 => ?_
      obtain ⟨i, j, l, n, rfl, rfl, rfl, hr, q⟩ := q3
      cases rv1; cases rv2; cases rv3
      exact ⟨i, j, l, n, rfl, hr, hJ _ H3 _ _ S3 μ3 ((g1.trans g2).trans g3) r3 q jok_rangeC⟩
    | [], _, h => simp [okI] at h
    | [_], _, h => simp [okI] at h
    | [_, _], _, h => simp [okI] at h
    | _ :: _ :: _ :: _ :: _, _, h => simp [okI] at h
    | [_, _, _], _ :: _, h => simp [okI] at h
  | .enum a, X, sc, tg, e, hx, h, ht => by
    cases e <;> first | (simp [okI] at h; done) | skip
    rename_i f as ks p
    cases f <;> first | (simp [okI] at h; done) | skip
    cases tg <;> first | (exfalso; have hz := ht rfl; simp [isTupE] at hz; done) | skip
    match as, ks, h with
    | [a'], [], h =>
      simp only [okI, Bool.and_eq_true, beq_iff_eq] at h
      obtain ⟨⟨⟨h1, h2⟩, h3⟩, h4⟩ := h
      subst h1
      refine PI.imp (pi_enum (gl_of hx h2) (hx.tab.bi _ (by simpa using h3)) (pa_cons (sE a a' hx h4) pa_nil (star_of h4)) (star_of h4)) fun σ H R ⟨η, μ, ρ, S, RD, hE, hR, hT, hJ⟩ => ?_
      simp only [wpI] at hT
      refine use hE hR hT fun d S1 v μ1 H1 g1 r1 e1 rv1 q1 => ?_
      exact enum_it r1 rv1 q1 fun J items I q jok => hJ J H1 items I S1 μ1 g1 r1 q jok
    | [], _, h => simp [okI] at h
    | _ :: _ :: _, _, h => simp [okI] at h
    | [_], _ :: _, h => simp [okI] at h
  | .zip2 a b, X, sc, tg, e, hx, h, ht => by
    cases e <;> first | (simp [okI] at h; done) | skip
    rename_i f as ks p
    cases f <;> first | (simp [okI] at h; done) | skip
    cases tg <;> first | (exfalso; have hz := ht rfl; simp [isTupE] at hz; done) | skip
    match as, ks, h with
    | [a', b'], [], h =>
      simp only [okI, Bool.and_eq_true, beq_iff_eq] at h
      obtain ⟨⟨⟨⟨h1, h2⟩, h3⟩, h4⟩, h5⟩ := h
      subst h1
      refine PI.imp (RZ.pi_zipA (gl_of hx h2) (hx.tab.bi _ (by simpa using h3)) (pa_cons (sE a a' hx h4) (pa_cons (sE b b' hx h5) pa_nil (star_of h5)) (star_of h4)) (star_of h4) (by rw [star_of h5]; rfl)) fun σ H R ⟨η, μ, ρ, S, RD, hE, hR, hT, hJ⟩ => ?_
      simp only [wpI] at hT
      refine use hE hR hT fun d S1 v μ1 H1 g1 r1 e1 rv1 q1 => use e1 r1 q1 fun d2 S2 v2 μ2 H2 g2 r2 e2 rv2 q2 => ?_
      exact zip_it r2 (rv1.ext g2.ext) rv2 q2 fun J items I q jok => hJ J H2 items I S2 μ2 (g1.trans g2) r2 q jok
    | [], _, h => simp [okI] at h
    | [_], _, h => simp [okI] at h
    | _ :: _ :: _ :: _, _, h => simp [okI] at h
    | [_, _], _ :: _, h => simp [okI] at h
end
end
end DL

namespace DL
open PySem PySem.Spec PyProof.Rows L2
section
variable {T : Tb} {G : Fns} {k : Nat} {N : List Str}
theorem asg1_of {sc : SS} {t : CT} {e : Expr} {env : Env} (h : okT T N sc t e = true) : (assignEach [e] env).map (·.2) = [assign e env] := by
  cases e <;> first | rfl | (exfalso; cases t <;> simp [okT] at h)
theorem swapsS_of {e t : Expr} {l : Nat} {env : Env} (h : notComp e = true) : swapsWithSole [t] e l env = pure false := by
  show swapsWith e (some t) l env = pure false
  exact swaps_of h
theorem pa3 {X : Cx} {e e' e3 : Expr} {T T' T3 : TD} (h : PE X e (tOf X.K T)) (h' : PE X e' (tOf X.K T')) (h3 : PE X e3 (tOf X.K T3)) (hs : starEach [e, e', e3] X.env = (false, eval e X.env) :: starEach [e', e3] X.env) (hs' : starEach [e', e3] X.env = (false, eval e' X.env) :: starEach [e3] X.env)
    (hs3 : starEach [e3] X.env = (false, eval e3 X.env) :: starEach [] X.env) :
    PA X [e, e', e3] (aOf X.K 3 (fun ρ S Q => T ρ S fun d S1 => T' ρ S1 fun d' S2 => T3 ρ S2 fun d3 S3 => Q [d, d', d3] S3)) :=
  PA.imp (pa_cons h (pa_cons h' (pa_cons h3 pa_nil hs3) hs') hs) fun σ H Q ⟨η, μ, ρ, S, QD, hE, hR, hT, hQ⟩ => use hE hR hT fun d S1 v μ1 H1 g1 r1 e1 rv1 q1 => use e1 r1 q1 fun d2 S2 v2 μ2 H2 g2 r2 e2 rv2 q2 => use e2 r2 q2 fun d3 S3 v3 μ3 H3 g3 r3 e3 rv3 q3 =>
    hQ _ _ ⟨[d, d2, d3], S3, μ3, (g1.trans g2).trans g3, r3, .cons ((rv1.ext g2.ext).ext g3.ext) (.cons (rv2.ext g3.ext) (.cons rv3 .nil)), q3⟩ rfl
theorem three_of {ds : List D} {vs : List V} {K : PySem.W.Frag} {H : Hp} {η μ : List Addr} (r : RVs K H η μ ds vs) (h : vs.length = 3) : ∃ d d' d3 v v' v3, ds = [d, d', d3] ∧ vs = [v, v', v3] ∧ RV K H η μ d v ∧ RV K H η μ d' v' ∧ RV K H η μ d3 v3 := by
  cases r with
  | nil => simp at h
  | cons a b =>
    obtain ⟨d, d', v, v', rfl, rfl, r, r'⟩ := two_of b (by simpa using h)
    exact ⟨_, _, _, _, _, _, rfl, rfl, a, r, r'⟩
theorem aug_ip {X : Cx} (op : Operator) : ∃ ti, PIp X op ti ∧ ∀ {K η μ S H x y v u} {F : Int → D → DStore → Prop} {Q : VK}, Rp K η μ S H → RV K H η μ x v → RV K H η μ y u →
    (i2 x y fun a b => match op with
      | .Add => F 0 (.int (a + b)) S
      | .Sub => F 0 (.int (a - b)) S
      | _ => False) → (∀ i, F 0 (.int i) S → Q (.int i) H) → ti v u H Q := by
  cases op
  case Add => exact ⟨_, ip_add, fun r rx ry h hQ => by
    cases rx <;> cases ry <;> simp only [i2] at h
    exact ⟨_, _, rfl, rfl, hQ _ h⟩⟩
  case Sub => exact ⟨_, ip_sub, fun r rx ry h hQ => by
    cases rx <;> cases ry <;> simp only [i2] at h
    exact ⟨_, _, rfl, rfl, hQ _ h⟩⟩
  all_goals exact ⟨fun _ _ _ _ => False, fun _ _ _ _ _ _ _ _ _ _ _ _ h => h.elim, fun r rx ry h hQ => by
    cases rx <;> cases ry <;> simp only [i2] at h⟩
set_option maxHeartbeats 4000000 in
mutual
theorem sS : ∀ (c : CS) {X : Cx} {sc : SS} (st : Stmt), Here T G k N X sc → okS T N sc c st = true → PS X st (sOf X.K (wpS G c))
  | .expr e, X, sc, st, hx, h => by
    cases st <;> first | (simp [okS] at h; done) | skip
    simp only [okS, Bool.and_eq_true] at h
    refine PS.imp (ps_expr (sE e _ hx h.1) (swaps_of h.2)) fun E σ H ⟨η, μ, ρ, S, ED, hE, hR, hT, hQ⟩ => ?_
    simp only [wpS] at hT
    exact use hE hR hT fun d S1 v μ1 H1 g1 r1 e1 rv1 q1 => hQ.nx _ _ _ _ _ g1 r1 e1 q1
  | .ret e, X, sc, st, hx, h => by
    cases st <;> first | (simp [okS] at h; done) | skip
    rename_i o p
    cases o <;> first | (simp [okS] at h; done) | skip
    simp only [okS] at h
    refine PS.imp (ps_ret (sE e _ hx h)) fun E σ H ⟨η, μ, ρ, S, ED, hE, hR, hT, hQ⟩ => ?_
    simp only [wpS] at hT
    exact use hE hR hT fun d S1 v μ1 H1 g1 r1 e1 rv1 q1 => hQ.rt _ _ _ _ _ g1 r1 rv1 q1
  | .retN, X, sc, st, hx, h => by
    cases st <;> first | (simp [okS] at h; done) | skip
    rename_i o p
    cases o <;> first | (simp [okS] at h; done) | skip
    refine PS.imp ps_retN fun E σ H ⟨η, μ, ρ, S, ED, hE, hR, hT, hQ⟩ => ?_
    simp only [wpS] at hT
    exact hQ.rt _ _ _ _ _ .refl hR .non hT
  | .pass, X, sc, st, hx, h => by
    cases st <;> first | (simp [okS] at h; done) | skip
    refine PS.imp ps_pass fun E σ H ⟨η, μ, ρ, S, ED, hE, hR, hT, hQ⟩ => ?_
    simp only [wpS] at hT
    exact hQ.nx _ _ _ _ _ .refl hR hE hT
  | .brk, X, sc, st, hx, h => by
    cases st <;> first | (simp [okS] at h; done) | skip
    refine PS.imp ps_break fun E σ H ⟨η, μ, ρ, S, ED, hE, hR, hT, hQ⟩ => ?_
    simp only [wpS] at hT
    exact hQ.bk _ _ _ _ _ .refl hR hE hT
  | .cont, X, sc, st, hx, h => by
    cases st <;> first | (simp [okS] at h; done) | skip
    refine PS.imp ps_continue fun E σ H ⟨η, μ, ρ, S, ED, hE, hR, hT, hQ⟩ => ?_
    simp only [wpS] at hT
    exact hQ.ct _ _ _ _ _ .refl hR hE hT
  | .never, X, sc, st, hx, h => by
    refine PS.imp ps_never fun E σ H ⟨η, μ, ρ, S, ED, hE, hR, hT, hQ⟩ => ?_
    simp only [wpS] at hT
  | .asg t e, X, sc, st, hx, h => by
    cases st <;> first | (simp [okS] at h; done) | skip
    rename_i ts e' p
    match ts, h with
    | [t'], h =>
      simp only [okS, Bool.and_eq_true] at h
      obtain ⟨⟨⟨⟨h1, h2⟩, h3⟩, h4⟩, h5⟩ := h
      by_cases hs : t.simple = true
      · refine PS.imp (ps_asg (sE e _ hx h2) (sT t _ hx h1 hs) (swapsS_of h3) (noSwap_of hx h4) (asg1_of h1)) fun E σ H ⟨η, μ, ρ, S, ED, hE, hR, hT, hQ⟩ => ?_
        simp only [wpS] at hT
        refine use hE hR hT fun d S1 v μ1 H1 g1 r1 e1 rv1 q1 => ?_
        exact gS_run t hs e1 rv1 q1 fun ρ' σ' e' _ _ q => hQ.nx _ _ _ _ _ g1 r1 e' q
      · cases t with
        | name i => exact absurd rfl hs
        | tup ts => simp only [Bool.or_false] at h5; exact absurd h5 hs
        | sub a i =>
          cases t' <;> first | (simp [okT] at h1; done) | skip
          have h1' := h1
          simp only [okT, Bool.and_eq_true] at h1
          refine PS.imp (ps_asg (sE e _ hx h2) (pg_sub (sE a _ hx h1.1.1) (sE i _ hx h1.1.2) set_list (sub_of h1.2)) (swapsS_of h3) (noSwap_of hx h4) (asg1_of h1')) fun E σ H ⟨η, μ, ρ, S, ED, hE, hR, hT, hQ⟩ => ?_
          simp only [wpS, wpG] at hT
          refine use hE hR hT fun d S1 v μ1 H1 g1 r1 e1 rv1 q1 => use e1 r1 q1 fun d2 S2 v2 μ2 H2 g2 r2 e2 rv2 q2 => use e2 r2 q2 fun d3 S3 v3 μ3 H3 g3 r3 e3 rv3 q3 => ?_
          obtain ⟨n, xs, kk, j, rfl, rfl, ec, ei, q⟩ := q3
          cases rv3
          have rv2' := rv2.ext (η' := η) g3.ext
          cases rv2' with
          | @ref n a hn =>
            obtain ⟨a', ha', vs, hvs, qs⟩ := r3.cell n _ ec
            rw [hn] at ha'; cases ha'
            have rv1' := (rv1.ext (η' := η) g2.ext).ext (η' := η) g3.ext
            have qs' := qs.set rv1' j
            refine ⟨_, _, _, j, rfl, rfl, hvs, by rw [← qs.length]; exact ei, ?_⟩
            have gg := grow_set (o := .lst (vs.set j v)) r3 hn
            exact hQ.nx _ _ _ _ _ (((g1.trans g2).trans g3).trans gg) (rp_set r3 hn qs') (e3.ext gg.ext) q
    | [], h => simp [okS] at h
    | _ :: _ :: _, h => simp [okS] at h
  | .par2 i j a b, X, sc, st, hx, h => by
    unfold okS at h
    split at h <;> first | (cases h; done) | (rename_i hq; cases hq; done) | skip
    rename_i hq; cases hq
    rename_i x px y py kt pt a' b' k2 p2 p
    simp only [Bool.and_eq_true, decide_eq_true_eq] at h
    obtain ⟨⟨⟨⟨⟨⟨⟨h1, h2⟩, h3⟩, h4⟩, h5⟩, h6⟩, h7⟩, h8⟩ := h
    have hw := swN_of (k1 := kt) (p1 := pt) (k2 := k2) (p2 := p2) hx (lits h8)
    refine PS.imp (ps_par hx.calm (by rw [hx.nm]; exact hx.nd) (by rw [hx.nm]; exact lits h3) (by rw [hx.nm]; exact lits h4) h5 (by rw [hx.scp]; exact pure_of h1) (by rw [hx.scp]; exact pure_of h2) (pa2 (sE a _ hx h6) (sE b _ hx h7) (star_of h6) (star_of h7)) hw rfl) fun E σ H ⟨η, μ, ρ, S, ED, hE, hR, hT, hQ⟩ => ?_
    simp only [wpS] at hT
    refine useA (QD := fun ds S1 => ED.nx ((ρ.set i (some (ds.headD .non))).set j (some (ds.tail.headD .non))) S1) hE hR hT fun ds S1 vs μ1 H1 g1 r1 e1 rv1 hl q1 => ?_
    obtain ⟨d, d', v, v', rfl, rfl, rv, rv2⟩ := two_of rv1 hl
    exact ⟨v, v', rfl, hQ.nx _ _ _ _ _ g1 r1 ((e1.set rv i).set rv2 j) q1⟩
  | .par3 i j l a b c, X, sc, st, hx, h => by
    unfold okS at h
    split at h <;> first | (cases h; done) | (rename_i hq; cases hq; done) | skip
    rename_i hq; cases hq
    rename_i x px y py z pz kt pt a' b' c' k2 p2 p
    simp only [Bool.and_eq_true, decide_eq_true_eq] at h
    obtain ⟨⟨⟨⟨⟨⟨⟨⟨⟨⟨⟨⟨h1, h2⟩, h3⟩, h4⟩, h5⟩, h6⟩, h7⟩, h8⟩, h9⟩, ha⟩, hb⟩, hc⟩, hd⟩ := h
    have hw := swN_of (k1 := kt) (p1 := pt) (k2 := k2) (p2 := p2) hx (lits hd)
    refine PS.imp (ps_par3 hx.calm (by rw [hx.nm]; exact hx.nd) (by rw [hx.nm]; exact lits h4) (by rw [hx.nm]; exact lits h5) (by rw [hx.nm]; exact lits h6) h7 h8 h9 (by rw [hx.scp]; exact pure_of h1) (by rw [hx.scp]; exact pure_of h2) (by rw [hx.scp]; exact pure_of h3)
      (pa3 (sE a _ hx ha) (sE b _ hx hb) (sE c _ hx hc) (star_of ha) (star_of hb) (star_of hc)) hw rfl) fun E σ H ⟨η, μ, ρ, S, ED, hE, hR, hT, hQ⟩ => ?_
    simp only [wpS] at hT
    refine useA (QD := fun ds S1 => ED.nx (((ρ.set i (some (ds.headD .non))).set j (some (ds.tail.headD .non))).set l (some (ds.tail.tail.headD .non))) S1) hE hR hT fun ds S1 vs μ1 H1 g1 r1 e1 rv1 hl q1 => ?_
    obtain ⟨d, d', d3, v, v', v3, rfl, rfl, rv, rv2, rv3⟩ := three_of rv1 hl
    exact ⟨v, v', v3, rfl, hQ.nx _ _ _ _ _ g1 r1 (((e1.set rv i).set rv2 j).set rv3 l) q1⟩
  | .setLc i e, X, sc, st, hx, h => by
    unfold okS at h
    split at h <;> first | (cases h; done) | (rename_i hq; cases hq; done) | skip
    rename_i hq; cases hq
    rename_i y py elt' gs scope pos p
    simp only [Bool.and_eq_true] at h
    obtain ⟨⟨⟨⟨⟨h0, h⟩, hy⟩, hi⟩, hl⟩, ha⟩ := h
    cases e <;> first | (cases h0; done) | skip
    rename_i m elt tg it ifs own
    match gs, h with
    | [⟨tg', it', ifs', as⟩], h =>
      by_cases ha : as = 0
      · subst ha
        simp only [okE, Bool.and_eq_true] at h
        obtain ⟨⟨⟨⟨⟨⟨⟨⟨h1, h2⟩, h3⟩, h4⟩, h5⟩, h6⟩, h7⟩, h8⟩, h9⟩ := h
        have ok := blkOk_by h1
        have hok : BlkOk X.N X.env.scope scope (own.map fun i => (N.getD i "", i)) := by rw [hx.nm, hx.scp]; exact ok
        have hown : (own.map fun i => ((N.getD i "", i) : Str × Nat)).map (·.2) = own := by rw [List.map_map]; exact List.map_id _
        have hyl : X.env.scope.names.lookup y = some .local := by rw [hx.scp]; exact pure_of hy
        have P := ps_setLc (spos := p) (py := py) (i := i) (y := y) (pos := pos) (elt := elt') (ifs := ifs') (tg := tg') (iter := it') (scope := scope) (g := gS X.K tg) (tt := bOf X.K (wpBs G ifs)) (te := tOf X.K (wpE G elt)) hx.calm (by rw [hx.nm]; exact hx.nd) (by rw [hx.nm]; exact lits hi) hyl
          (sw_true (by rw [hx.scp]; exact hx.kind) hyl hl (by simpa using ‹(!scope.names.any fun x => match x with | (n, k) => n == y && (k == NameKind.local || k == NameKind.cell)) = true›)) (sI it _ _ hx h6 (pairs_of h9)) hok (fun s H C cl fp => sT tg _ (hx.blk ok.kind s H C cl fp) h3 h4) (fun s H C cl fp => sBs ifs _ (hx.blk ok.kind s H C cl fp) h7 (by simpa using h8))
          (fun s H C cl fp => sE elt _ (hx.blk ok.kind s H C cl fp) h2) (sI_fold it _ h6)
        rw [hown] at P
        refine PS.imp P fun E σ H ⟨η, μ, ρ, S, ED, hE, hR, hT, hQ⟩ => ?_
        rw [wpS] at hT
        refine lc_of hE hR h4 (fun i hi => by simpa using List.all_eq_true.mp h5 i hi) hT fun v H' ⟨d, S1, μ1, g1, r1, rv, q⟩ => ?_
        exact hQ.nx _ _ _ _ _ g1 r1 ((hE.ext g1.ext).set rv i) q
      · simp [okE, ha] at h
    | [], h => simp [okE] at h
    | _ :: _ :: _, h => simp [okE] at h
  | .aug i op e, X, sc, st, hx, h => by
    cases st <;> first | (simp [okS] at h; done) | skip
    rename_i t op' e' p
    cases t <;> first | (simp [okS] at h; done) | skip
    simp only [okS, Bool.and_eq_true, beq_iff_eq] at h
    obtain ⟨⟨⟨h1, h2⟩, h3⟩, h4⟩ := h
    subst h1
    obtain ⟨l1, l2⟩ := loc_of h2
    obtain ⟨ti, hti, hrun⟩ := aug_ip (X := X) op
    refine PS.imp (ps_aug (i := i) (by rw [hx.nm]; exact hx.nd) (by rw [hx.nm]; exact lits (by simpa using h3)) (by rw [hx.scp]; exact l1) (sE e _ hx h4) hti (l2.imp (fun z => hx.fn _ z) fun z => by rw [hx.scp]; exact z)) fun E σ H ⟨η, μ, ρ, S, ED, hE, hR, hT, hQ⟩ => ?_
    simp only [wpS] at hT
    obtain ⟨x, ex, hT⟩ := hT
    obtain ⟨v, ev, rv⟩ := hE.get i x ex
    refine ⟨v, ev, use hE hR hT fun d S1 u μ1 H1 g1 r1 e1 rv1 q1 => ?_⟩
    refine hrun (F := fun _ d S1 => ED.nx (ρ.set i (some d)) S1) r1 (rv.ext g1.ext) rv1 ?_ fun z q => hQ.nx _ _ _ _ _ g1 r1 (e1.set (.int z) i) q
    revert q1
    unfold i2
    split
    · cases op <;> exact id
    · exact id
  | .append a e, X, sc, st, hx, h => by
    unfold okS at h
    split at h <;> first | (cases h; done) | (rename_i hq; cases hq; done) | skip
    rename_i hq; cases hq
    rename_i o m ap e' cp p
    simp only [Bool.and_eq_true, beq_iff_eq] at h
    obtain ⟨⟨⟨⟨h1, h2⟩, h3⟩, h4⟩, h5⟩ := h
    subst h1
    refine PS.imp (ps_expr (pe_bm PySem.F.plainAttrs_list PySem.F.slot_list_append PySem.F.type_list_append mt_append (sE a _ hx h3) (pa1 (sE e _ hx h4) (star_of h4)) (base_of h5) (by rw [star_of h4]; rfl) (by simpa using h2) (star_of h4) rfl)) fun E σ H ⟨η, μ, ρ, S, ED, hE, hR, hT, hQ⟩ => ?_
    simp only [wpS] at hT
    refine use hE hR hT fun d S1 v μ1 H1 g1 r1 e1 rv1 q1 => ?_
    obtain ⟨n, rfl, hn, q1⟩ := q1
    cases rv1 with
    | @ref n a1 hn1 =>
      obtain ⟨a2, ha2, vs2, hv2, qs2⟩ : ∃ a2, μ1[n]? = some a2 ∧ ∃ vs, H1 a2 = some (.lst vs) ∧ True := by
        obtain ⟨a2, ha2, hc2⟩ := r1.cell n _ (List.getElem?_eq_getElem hn)
        cases hcell : S1[n] with
        | lst ds => rw [hcell] at hc2; obtain ⟨vs, e, q⟩ := hc2; exact ⟨a2, ha2, vs, e, trivial⟩
      rw [hn1] at ha2; cases ha2
      refine ⟨.inl ⟨rfl, _, .inl (.inl hv2)⟩, ?_⟩
      refine useA (QD := fun ds S2 => ∃ xs, S2[n]? = some (.lst xs) ∧ xs.length < sizeLine ∧ ED.nx ρ (S2.set n (.lst (xs ++ [ds.headD .non])))) e1 r1 q1 fun ds S2 vs μ2 H2 g2 r2 e2 rv2 hl q2 => ?_
      obtain ⟨y, u, rfl, rfl, ru⟩ := one_of rv2 hl
      obtain ⟨xs, ec, hz, q⟩ := q2
      obtain ⟨a3, ha3, ws, hw, qs⟩ := r2.cell n _ ec
      obtain ⟨more, em⟩ := g2.pre
      have ha1 : μ2[n]? = some a1 := by
        rw [em, List.getElem?_append_left (List.getElem?_eq_some_iff.mp hn1).1]; exact hn1
      rw [ha1] at ha3; cases ha3
      refine ⟨a1, ws, u, rfl, rfl, hw, by rw [← qs.length]; exact hz, ?_⟩
      have gg := grow_set (o := .lst (ws ++ [u])) r2 ha1
      exact hQ.nx _ _ _ _ _ ((g1.trans g2).trans gg) (rp_set r2 ha1 (qs.append (.cons ru .nil))) (e2.ext gg.ext) q
  | .if_ c a b, X, sc, st, hx, h => by
    cases st <;> first | (simp [okS] at h; done) | skip
    simp only [okS, Bool.and_eq_true] at h
    refine PS.imp (ps_if (sB c _ hx h.1.1) (sSs a _ hx h.1.2) (sSs b _ hx h.2)) fun E σ H ⟨η, μ, ρ, S, ED, hE, hR, hT, hQ⟩ => ?_
    simp only [wpS] at hT
    refine useB hE hR hT fun r S1 μ1 H1 g1 r1 e1 q1 => ?_
    cases r with
    | true => simp only [if_true] at q1 ⊢; exact useS e1 r1 q1 (hQ.grow g1)
    | false => simp only [Bool.false_eq_true, if_false] at q1 ⊢; exact useS e1 r1 q1 (hQ.grow g1)
  | .while_ c b, X, sc, st, hx, h => by
    cases st <;> first | (simp [okS] at h; done) | skip
    rename_i t bd el p
    cases el <;> first | (simp [okS] at h; done) | skip
    simp only [okS, Bool.and_eq_true] at h
    refine PS.imp (ps_while (by rw [hx.xe]; exact PassesOwn.never) (sB c _ hx h.1) (sSs b _ hx h.2)) fun E σ H ⟨η, μ, ρ, S, ED, hE, hR, hT, hQ⟩ => ?_
    simp only [wpS] at hT
    obtain ⟨W, ⟨m0, w0⟩, turn⟩ := hT
    refine ⟨fun m σ' H' => ∃ ρ' S' μ', Grow μ H μ' H' ∧ Rp X.K η μ' S' H' ∧ RE X.K H' η μ' ρ' σ' ∧ W m ρ' S', ⟨m0, ρ, S, μ, .refl, hR, hE, w0⟩, ?_⟩
    rintro m σ1 H1 ⟨ρ1, S1, μ1, g1, r1, e1, w1⟩
    refine useB e1 r1 (turn m ρ1 S1 w1) fun r S2 μ2 H2 g2 r2 e2 q2 => ?_
    cases r with
    | false => simp only [Bool.false_eq_true, if_false] at q2 ⊢; exact hQ.nx _ _ _ _ _ (g1.trans g2) r2 e2 q2
    | true =>
      simp only [if_true] at q2 ⊢
      refine ⟨fun σ' H' => ∃ ρ' S' μ', Grow μ H μ' H' ∧ Rp X.K η μ' S' H' ∧ RE X.K H' η μ' ρ' σ' ∧ ∃ m', m' < m ∧ W m' ρ' S', fun σ' H' ⟨ρ', S', μ', g, r, e, m', hm, w⟩ => ⟨m', hm, ρ', S', μ', g, r, e, w⟩, ?_⟩
      refine useS e2 r2 q2 ⟨fun ρ' S' σ' μ' H' g r e w => ⟨ρ', S', μ', (g1.trans g2).trans g, r, e, w⟩, fun d S' v μ' H' g r rv q => hQ.rt _ _ _ _ _ ((g1.trans g2).trans g) r rv q,
        fun ρ' S' σ' μ' H' g r e q => hQ.nx _ _ _ _ _ ((g1.trans g2).trans g) r e q, fun ρ' S' σ' μ' H' g r e w => ⟨ρ', S', μ', (g1.trans g2).trans g, r, e, w⟩⟩
  | .for_ t it b, X, sc, st, hx, h => by
    cases st <;> first | (simp [okS] at h; done) | skip
    rename_i t' it' bd el p
    cases el <;> first | (simp [okS] at h; done) | skip
    simp only [okS, Bool.and_eq_true] at h
    obtain ⟨⟨⟨⟨h1, h2⟩, h3⟩, h4⟩, h9⟩ := h
    refine PS.imp (ps_for (by rw [hx.xe]; exact PassesOwn.never) hx.calm (sI it _ _ hx h3 (pairs_of h9)) (sT t _ hx h1 h2) (sSs b _ hx h4) (sI_fold it _ h3)) fun E σ H ⟨η, μ, ρ, S, ED, hE, hR, hT, hQ⟩ => ?_
    simp only [wpS] at hT
    refine ⟨η, μ, ρ, S, _, hE, hR, hT, fun J H1 items I S1 μ1 g1 r1 hW jok => ?_⟩
    obtain ⟨W, w0, wst, turn, fin⟩ := hW
    refine ⟨fun i m σ' H' => i ≤ items.length ∧ m = items.length - i ∧ ∃ ρ' S' μ', Grow μ1 H1 μ' H' ∧ Rp X.K η μ' S' H' ∧ RE X.K H' η μ' ρ' σ' ∧ W i ρ' S', ⟨items.length, Nat.zero_le _, rfl, ρ, S1, μ1, .refl, r1, hE.ext g1.ext, w0⟩, ?_⟩
    rintro i m σ2 H2 ⟨hi, rfl, ρ2, S2, μ2, g2, r2, e2, w2⟩
    obtain ⟨jgo, jstop⟩ := jok i η μ2 S2 H2 g2.ext r2 (wst i ρ2 S2 w2)
    by_cases hlt : i < items.length
    · right
      obtain ⟨go, yl⟩ := jgo hlt
      refine ⟨go, fun σ' H' => i + 1 ≤ items.length ∧ ∃ ρ' S' μ', Grow μ1 H1 μ' H' ∧ Rp X.K η μ' S' H' ∧ RE X.K H' η μ' ρ' σ' ∧ W (i + 1) ρ' S', fun σ' H' hN => ⟨items.length - (i + 1), by omega, hN.1, rfl, hN.2⟩, fun x H3 hy => ?_⟩
      obtain ⟨gy, ry, d, hd, rvd⟩ := yl x H3 hy
      refine gS_run t h2 (e2.ext gy.ext) rvd (turn i d ρ2 S2 w2 hd) fun ρ' σ' e' _ _ q => ?_
      have gg : Grow μ1 H1 μ2 H3 := g2.trans gy
      have hG := hQ.grow (g1.trans gg)
      exact useS e' ry q ⟨fun ρ' S' σ' μ' H' g r e w => ⟨hlt, ρ', S', μ', gg.trans g, r, e, w⟩, hG.rt, hG.nx, fun ρ' S' σ' μ' H' g r e w => ⟨hlt, ρ', S', μ', gg.trans g, r, e, w⟩⟩
    · left
      have hi' : i = items.length := by omega
      subst hi'
      exact ⟨jstop (Nat.le_refl _), hQ.nx _ _ _ _ _ (g1.trans g2) r2 e2 (fin _ _ w2)⟩
theorem sSs : ∀ (cs : List CS) {X : Cx} {sc : SS} (sts : List Stmt), Here T G k N X sc → okSs T N sc cs sts = true → PSs X sts (sOf X.K (wpSs G cs))
  | [], X, sc, sts, hx, h => by
    cases sts with
    | cons _ _ => simp [okSs] at h
    | nil =>
      refine PSs.imp pss_nil fun E σ H ⟨η, μ, ρ, S, ED, hE, hR, hT, hQ⟩ => ?_
      simp only [wpSs] at hT
      exact hQ.nx _ _ _ _ _ .refl hR hE hT
  | c :: cs, X, sc, sts, hx, h => by
    cases sts with
    | nil => simp [okSs] at h
    | cons st sts =>
      simp only [okSs, Bool.and_eq_true] at h
      refine PSs.imp (pss_cons (sS c st hx h.1) (sSs cs sts hx h.2)) fun E σ H ⟨η, μ, ρ, S, ED, hE, hR, hT, hQ⟩ => ?_
      simp only [wpSs] at hT
      refine useS hE hR hT ⟨fun ρ' S' σ' μ' H' g r e q => useS e r q (hQ.grow g), hQ.rt, hQ.bk, hQ.ct⟩
end
end
end DL

namespace DL
open PySem PySem.Spec PyProof.Rows L2
def startD (n : Nat) (ds : List D) : DEnv := ds.map some ++ List.replicate (n - ds.length) none
theorem re_start {K : PySem.W.Frag} {H : Hp} {η μ : List Addr} {N : List Str} {ds : List D} {vs : List V} (r : RVs K H η μ ds vs) : RE K H η μ (startD N.length ds) (L2.start N vs) := by
  have hl := r.length
  refine ⟨by simp [startD, L2.start, hl], fun i d h => ?_⟩
  unfold startD at h
  by_cases hi : i < ds.length
  · rw [List.getElem?_append_left (by simpa using hi), List.getElem?_map] at h
    rw [List.getElem?_eq_getElem hi] at h
    simp at h
    obtain ⟨v, e, rv⟩ := r.get (List.getElem?_eq_getElem hi)
    refine ⟨v, ?_, by rw [← h]; exact rv⟩
    unfold L2.start
    rw [List.getElem?_append_left (by simp; omega), List.getElem?_map, e]
    rfl
  · rw [List.getElem?_append_right (by simpa using hi), List.getElem?_replicate] at h
    split at h <;> simp at h
/-- a def keeps what its body's reading tells -/
theorem fn_sound {P : Program} {w : World} {K : PySem.W.Frag} {mg : Str → Option Value} {base : Heap} {T : Tb} {G : Fns} {k : Nat} {x qual : Str} {st : Stmt} {f : Addr} {fd : FuncData} {N ps : List Str} {core : List CS} {sp : List D → DStore → QE → Prop}
    (F : L2.Fun K x qual st f fd) (Sc : FnScope N ps (L2.defScope st)) (tab : Tab P w K mg base k T G) (ok : okSs T N ⟨L2.defScope st, L2.defScope st⟩ core (L2.defBody st) = true)
    (hlen : ∀ ds S Q, sp ds S Q → ds.length = ps.length) (hb : ∀ ds S Q, sp ds S Q → wpSs G core (startD N.length ds) S { nx := fun _ S' => Q .non S', rt := Q }) :
    FnG P w K mg base (k + 1) f fd ps (spOf K sp) := by
  refine fnG_of F Sc (fun vs H Q ⟨η, μ, S, ds, QD, r, rv, h, hq⟩ => by rw [← rv.length]; exact hlen _ _ _ h) fun cdv A outer s H vs Q hg hr h => ?_
  obtain ⟨η, μ, S, ds, QD, r, rv, h, hq⟩ := h
  have hx : Here T G k N (cxG P w K mg base N qual st f cdv A outer s H) ⟨L2.defScope st, L2.defScope st⟩ :=
    ⟨tab, rfl, Sc.nd, rfl, Sc.kind, rfl, hr, hg, rfl, fun _ _ => rfl⟩
  refine ⟨_, sSs core _ hx ok, useS (re_start rv) r (hb ds S QD h) ⟨?_, ?_, fun _ _ _ _ _ _ _ _ z => z.elim, fun _ _ _ _ _ _ _ _ z => z.elim⟩⟩
  · exact fun ρ' S' σ' μ' H' g r' e q => hq _ _ ⟨.non, S', μ', g, r', .non, q⟩
  · exact fun d S' v μ' H' g r' rv' q => hq _ _ ⟨d, S', μ', g, r', rv', q⟩
theorem Tab.none {P : Program} {w : World} {K : PySem.W.Frag} {mg : Str → Option Value} {base : Heap} {gls bis : List Str} {G : Fns}
    (gl : ∀ (j : Nat) (x : Str), gls[j]? = some x → ∃ u v, mg x = some u ∧ RelV v u ∧ ∀ H η μ, RV K H η μ (G.gl j) v) (bi : ∀ x ∈ bis, mg x = none) : Tab P w K mg base 0 ⟨[], gls, bis⟩ G :=
  ⟨fun j i h => by simp at h, gl, bi⟩
theorem Tab.add {P : Program} {w : World} {K : PySem.W.Frag} {mg : Str → Option Value} {base : Heap} {T : Tb} {G : Fns} {k : Nat} {i : FI} {f : Addr} {fd : FuncData} (tab : Tab P w K mg base k T G)
    (F : FnG P w K mg base (k + 1) f fd i.ps (spOf K (G.fn T.fns.length))) (hm : mg i.name = some (.ref f)) (hk : PySem.W.keepIn K (.ref f) = true) (hb : KBinds K fd i.ps [] (fun us _ => us) (fun vs _ => vs))
    (hkw : ∀ p ∈ i.kws, KBinds K fd i.ps p.1 (gK .none p.1.length p.2) (gK .non p.1.length p.2)) :
    Tab P w K mg base (k + 1) ⟨T.fns ++ [i], T.gls, T.bis⟩ G := by
  refine ⟨fun j i' h => ?_, tab.gl, tab.bi⟩
  by_cases hj : j < T.fns.length
  · have h' : T.fns[j]? = some i' := by
      have := h
      simp only at this
      rwa [List.getElem?_append_left hj] at this
    obtain ⟨f, fd, F, r⟩ := tab.fn j i' h'
    exact ⟨f, fd, F.mono (Nat.le_succ _), r⟩
  · have hj' : j = T.fns.length := by
      have := (List.getElem?_eq_some_iff.mp h).1
      simp at this
      omega
    subst hj'
    simp at h
    subst h
    exact ⟨f, fd, F, hm, hk, hb, hkw⟩
/-- how arguments come by their places, by names -/
theorem kb_pos {K : PySem.W.Frag} {fd : FuncData} {ps : List Str} (h : ∀ us : List Value, us.length = ps.length → bindArgs fd ⟨us, []⟩ = pure (ps.zip us)) : KBinds K fd ps [] (fun us _ => us) (fun vs _ => vs) :=
  ⟨fun s us ws _ hl => .of_eq (h us hl), fun a _ => a⟩
theorem vals_getD {zs : List V} {ws : List Value} (r : Vals zs ws) (n : Nat) : RelV (zs.getD n .non) (ws.getD n .none) := by
  by_cases h : n < zs.length
  · obtain ⟨u, e, ru⟩ := r.get (List.getElem?_eq_getElem h)
    rw [List.getD_eq_getElem?_getD, List.getD_eq_getElem?_getD, List.getElem?_eq_getElem h, e]
    exact ru
  · rw [List.getD_eq_getElem?_getD, List.getD_eq_getElem?_getD, List.getElem?_eq_none_iff.mpr (by omega), List.getElem?_eq_none_iff.mpr (by rw [← r.length]; omega)]
    rfl
theorem vals_perm {zs : List V} {ws : List Value} (r : Vals zs ws) : ∀ l : List Nat, Vals (l.map fun n => zs.getD n .non) (l.map fun n => ws.getD n .none)
  | [] => .nil
  | n :: l => .cons (vals_getD r n) (vals_perm r l)
theorem kb_kw {K : PySem.W.Frag} {fd : FuncData} {ps ks : List Str} {perm : List Nat} (hp : ps ≠ [])
    (h : ∀ us ws : List Value, ws.length = ks.length → us.length + perm.length = ps.length → bindArgs fd ⟨us, ks.zip ws⟩ = pure (ps.zip (us ++ perm.map fun n => ws.getD n .none))) : KBinds K fd ps ks (gK .none ks.length perm) (gK .non ks.length perm) := by
  refine ⟨fun s us ws _ hl => ?_, fun a b => ?_⟩
  · unfold gK at hl ⊢
    by_cases hw : ws.length = ks.length
    · rw [if_pos hw] at hl ⊢
      exact .of_eq (h us ws hw (by simpa using hl))
    · rw [if_neg hw] at hl
      exact absurd (List.eq_nil_of_length_eq_zero hl.symm) hp
  · unfold gK
    rw [b.length]
    split
    · exact a.append (vals_perm b perm)
    · exact .nil

/-! ### the law's end -/
/-- what a law's def promises -/
def spLaw : List D → DStore → QE → Prop := fun ds S Q => ∃ ns : List Int, ds = [.scr (ns.map D.int)] ∧ ns.length ≤ 63 ∧ ∀ S', Q (.bl true) S'
theorem rvs_ints {K : PySem.W.Frag} {H : Hp} {η μ : List Addr} : ∀ ns : List Int, RVs K H η μ (ns.map D.int) (ns.map V.int)
  | [] => .nil
  | n :: ns => .cons (.int n) (rvs_ints ns)
theorem law_end {P : Program} {w : World} {K : PySem.W.Frag} {mg mb : Str → Option Value} {k : Nat} {fa a : Addr} {fd : FuncData} {x : Str} {s1 : Shared} {vs : List Value} {ns : List Int}
    (kin : K.In s1.heap) (gns : s1.heap.Ns mainGlobals mg) (bns : s1.heap.Ns builtinsNs mb) (bb : ∀ x : Str, x ≠ "__name__" → mb x = bootBuiltins x) (lim : s1.heap.NoLimit) (nog : s1.gens = #[])
    (obj : s1.heap.get? a = some { cls := .type "list", data := .seq vs.toArray }) (hi : IntsAre vs ns) (len : ns.length ≤ 63) (room : Room k callerA)
    (F : ∀ base : Heap, K.In base → base.Ns mainGlobals mg → FnG P w K mg base k fa fd [x] (spOf K spLaw)) (binds : ∀ (s : Shared) (u : Value), BindsTo s fd ⟨[u], []⟩ [(x, u)]) :
    codeAny (model P w) callerA (.call (.ref fa) ⟨[.ref a], []⟩) (fun r s' => r = .ok (.ret (.bool true)) ∧ OldK s1.heap s'.heap ∧ s'.os = s1.os ∧ AllBare s'.gens) s1 := by
  have hz : ns.length ≤ sizeLine := Nat.le_trans len (by decide)
  have rel := vals_ints hi
  have hlen := hi.length
  let o : Obj := { cls := .type "list", data := .seq vs.toArray }
  -- whatever is tracked: nothing, or the script alone
  have go : ∀ H : Hp, (∀ b, b ≠ a → H b = none) → (H a = none ∨ (H a = some (.frz o (.lst (ns.map V.int))) ∧ K.lookup a = none)) → ((∃ o, H a = some (.frz o (.lst (ns.map V.int)))) ∨ ∀ H', SqL K H' a (ns.map V.int)) →
      codeAny (model P w) callerA (.call (.ref fa) ⟨[.ref a], []⟩) (fun r s' => r = .ok (.ret (.bool true)) ∧ OldK s1.heap s'.heap ∧ s'.os = s1.os ∧ AllBare s'.gens) s1 := by
    intro H Hn Ha hscr
    have hok : HOk P w H s1.heap := by
      intro b u e
      by_cases hb : b = a
      · subst hb
        rcases Ha with z | ⟨z, _⟩
        · rw [z] at e; cases e
        · rw [z] at e; cases e
          exact ⟨obj, by simpa using hz, vs, _, rel, obj⟩
      · rw [Hn b hb] at e; cases e
    have keep : ∀ {b : Addr} {u : Obj}, s1.heap.get? b = some u → H b = none → (hidT s1.heap H).get? b = some u := fun e hb => hidT_get e hb
    have nsK : ∀ {b : Addr} {m : Str → Option Value}, s1.heap.Ns b m → (hidT s1.heap H).Ns b m := by
      rintro b m ⟨u, es, ep, e, d, r⟩
      refine ⟨u, es, ep, keep e (Hn b ?_), d, r⟩
      rintro rfl
      rw [obj] at e; cases e
      cases d
    have kinB : K.In (hidT s1.heap H) := fun b u e => keep (kin b u e) (by
      by_cases hb : b = a
      · subst hb
        rcases Ha with z | ⟨_, z⟩
        · exact z
        · rw [z] at e; cases e
      · exact Hn b hb)
    have md : Mod K mg (hidT s1.heap H) := ⟨kinB, nsK gns, ⟨mb, nsK bns, bb⟩, by obtain ⟨mc, h1, h2⟩ := lim; exact ⟨mc, nsK h1, h2⟩⟩
    have e0 : Env0 P w K mg (hidT s1.heap H) callerA [] s1 H :=
      ⟨rfl, md, fun b u e => of_hidT e, Nat.le_of_eq (hidT_size _ _), trivial, fun b hb => (by cases hb), hok, .of_eq nog⟩
    have sp : spOf K spLaw [.ref a] H (fun v _ => v = .bl true) := by
      refine ⟨[], [], [], [.scr (ns.map D.int)], fun d _ => d = .bl true, ⟨rfl, List.nodup_nil, fun n c e => by simp at e, fun b hb => by cases hb⟩, .cons (.scr hscr (rvs_ints ns)) .nil, ⟨ns, rfl, len, fun _ => rfl⟩, ?_⟩
      rintro v H' ⟨d, S', μ', g, r, rv, rfl⟩
      cases rv
      rfl
    refine codeAny_mono ((F _ kinB (nsK gns)).run callerA [] s1 H ⟨[.ref a], []⟩ [.ref a] [.ref a] _ rfl room e0 (binds s1 (.ref a)) (.cons rfl .nil) sp) fun res s' out => ?_
    match res, out with
    | .error er, out => exact out.elim
    | .ok .next, out => exact out.elim
    | .ok .brk, out => exact out.elim
    | .ok .cont, out => exact out.elim
    | .ok (.ret u), ⟨v, H', os, bare, un, hok', rv, q⟩ =>
      obtain rfl : v = .bl true := q
      obtain rfl : u = Value.bool true := rv
      refine ⟨rfl, OldK.of_keep fun b u e => ?_, os, bare⟩
      by_cases hb : H b = none
      · exact un.keep b u e hb (fun z => by cases z) (fun z => by cases z)
      · have hba : b = a := Classical.byContradiction fun z => hb (Hn b z)
        subst hba
        rcases Ha with z | ⟨z, _⟩
        · exact absurd z hb
        · obtain ⟨e1, _⟩ := hok' b _ (un.frzs b o _ z)
          rw [obj] at e; cases e
          exact e1
  cases hk : K.lookup a with
  | none => exact go (fun b => if b = a then some (.frz o (.lst (ns.map V.int))) else none) (fun b hb => if_neg hb) (.inr ⟨if_pos rfl, hk⟩) (.inl ⟨o, if_pos rfl⟩)
  | some ob =>
    have e := kin a ob hk
    rw [obj] at e
    cases e
    refine go (fun _ => none) (fun _ _ => rfl) (.inl rfl) (.inr fun H' => .inr ⟨_, vs.toArray, _, hk, rfl, rfl, rfl, ?_, by simpa using rel⟩)
    rw [List.size_toArray, hlen]; exact hz
/-- the goal that the head leaves, from the law's promise -/
theorem walk_law {l : PySem.W.OpenLaw} {k : Nat} {q : Program} {loose : List Str} {XP : (Str → Option Value) → Heap → Prop} {YP : World → Heap → Prop} {d : DefRec} {K : Params → PySem.W.Frag} {x : Str}
    (hn : l.most = some 63) (hdf : d.params.defaults = []) (room : Room k callerA) (hY : ∀ (w : World) (h : Heap), YP w h → (K w.params).In h)
    (F : ∀ (w : World) (mg : Str → Option Value) (fa : Addr) (h : Heap), (K w.params).In h → h.Ns mainGlobals mg → mg d.name = some (.ref fa) →
      ∃ fd : FuncData, (∀ (s : Shared) (u : Value), BindsTo s fd ⟨[u], []⟩ [(x, u)]) ∧ ∀ base : Heap, (K w.params).In base → base.Ns mainGlobals mg → FnG l.prog w (K w.params) mg base k fa fd [x] (spOf (K w.params) spLaw)) :
    PySem.W.WalkO q loose XP YP l.row.toRowW d [] (fun f vs => PySem.call f vs) := by
  refine Att.attach_call hn hdf ?_
  intro w s0 s1 mg mb fa o pm cd doc a vs ns Gr Yp ho hd hcd hmg hobj hints hlen hg
  obtain ⟨fd, hb, hF⟩ := F w mg fa _ (hY w _ Yp) Gr.T.g hmg
  exact law_end (hY w _ Yp) Gr.T.g Gr.T.b Gr.T.builtins Gr.T.nolimit hg hobj hints hlen room hF hb
end DL

namespace DL
open PySem PySem.Spec PyProof.Rows L2
/-! ### walking and gathering -/
def rng (lo hi : Int) : List Int := (List.range (hi - lo).toNat).map fun (k : Nat) => lo + k
theorem rangeD_eq (lo hi : Int) : rangeD lo hi = (rng lo hi).map D.int := by simp [rangeD, rng, List.map_map, Function.comp_def]
theorem rng_len (lo hi : Int) : (rng lo hi).length = (hi - lo).toNat := by simp [rng]
theorem mem_rng {lo hi x : Int} : x ∈ rng lo hi ↔ lo ≤ x ∧ x < hi := by
  simp only [rng, List.mem_map, List.mem_range]
  constructor
  · rintro ⟨k, hk, rfl⟩; omega
  · intro h; exact ⟨(x - lo).toNat, by omega, by omega⟩
theorem walk_range {lo hi : Int} {I : DStore → Prop} {ρ : DEnv} {S : DStore} {turn : D → DEnv → DStore → (DEnv → DStore → Prop) → Prop} {Q : DEnv → DStore → Prop} (Pv : Nat → DEnv → DStore → Prop) (h0 : Pv 0 ρ S) (hI : ∀ i ρ S, Pv i ρ S → I S)
    (hs : ∀ (i : Nat) ρ S, lo + i < hi → Pv i ρ S → turn (.int (lo + i)) ρ S (Pv (i + 1))) (hd : ∀ ρ S, Pv (hi - lo).toNat ρ S → Q ρ S) : wpWalk (rangeD lo hi) I ρ S turn Q := by
  refine ⟨Pv, h0, hI, fun i x ρ S h e => ?_, fun ρ S h => hd ρ S (by simpa [rangeD] using h)⟩
  have hi' : i < (hi - lo).toNat := by
    have := (List.getElem?_eq_some_iff.mp e).1
    simpa [rangeD] using this
  unfold rangeD at e
  rw [List.getElem?_map, List.getElem?_range hi'] at e
  cases e
  exact hs i ρ S (by omega) h
theorem walk_list {items : List D} {I : DStore → Prop} {ρ : DEnv} {S : DStore} {turn : D → DEnv → DStore → (DEnv → DStore → Prop) → Prop} {Q : DEnv → DStore → Prop} (Pv : Nat → DEnv → DStore → Prop) (h0 : Pv 0 ρ S) (hI : ∀ i ρ S, Pv i ρ S → I S)
    (hs : ∀ (i : Nat) (x : D) ρ S, items[i]? = some x → Pv i ρ S → turn x ρ S (Pv (i + 1))) (hd : ∀ ρ S, Pv items.length ρ S → Q ρ S) : wpWalk items I ρ S turn Q :=
  ⟨Pv, h0, hI, fun i x ρ S h e => hs i x ρ S e h, hd⟩
/-- one after another, written out -/
theorem walk_nil {I : DStore → Prop} {ρ : DEnv} {S : DStore} {turn : D → DEnv → DStore → (DEnv → DStore → Prop) → Prop} {Q : DEnv → DStore → Prop} (hI : I S) (h : Q ρ S) : wpWalk [] I ρ S turn Q :=
  ⟨fun i ρ' S' => i = 0 ∧ ρ' = ρ ∧ S' = S, ⟨rfl, rfl, rfl⟩, fun i ρ' S' ⟨_, _, e⟩ => e ▸ hI, fun i x _ _ _ e => by simp at e, fun ρ' S' ⟨_, e1, e2⟩ => by rw [e1, e2]; exact h⟩
/-- a comprehension that changes nothing: a map -/
theorem gather_map {α : Type} {xs : List α} (mk : α → D) (f : α → D) {I : DStore → Prop} {S : DStore} {turn : D → DStore → (Option D → DStore → Prop) → Prop} {Q : List D → DStore → Prop} (hl : xs.length ≤ sizeLine) (hI : I S)
    (hs : ∀ x ∈ xs, ∀ N : Option D → DStore → Prop, N (some (f x)) S → turn (mk x) S N) (hQ : Q (xs.map f) S) : wpGather (xs.map mk) I S turn Q := by
  refine ⟨fun i acc S' => S' = S ∧ i ≤ xs.length ∧ acc = (xs.take i).map f, ⟨rfl, Nat.zero_le _, by simp⟩, ?_, by simpa using hl, ?_, ?_⟩
  · rintro i acc S' ⟨rfl, hi, rfl⟩
    exact ⟨hI, by simp; omega, by simpa using hi⟩
  · rintro i x acc S' ⟨rfl, hi, rfl⟩ e
    rw [List.getElem?_map] at e
    obtain ⟨y, ey, rfl⟩ := Option.map_eq_some_iff.mp e
    have hlt : i < xs.length := (List.getElem?_eq_some_iff.mp ey).1
    refine hs y (List.mem_of_getElem? ey) _ ⟨rfl, hlt, ?_⟩
    rw [List.take_add_one, ey, List.map_append]; rfl
  · rintro acc S' ⟨rfl, hi, rfl⟩
    rw [List.length_map, List.take_length]; exact hQ
theorem gather_range {lo hi : Int} (f : Int → D) {I : DStore → Prop} {S : DStore} {turn : D → DStore → (Option D → DStore → Prop) → Prop} {Q : List D → DStore → Prop} (hl : (hi - lo).toNat ≤ sizeLine) (hI : I S)
    (hs : ∀ x, lo ≤ x → x < hi → ∀ N : Option D → DStore → Prop, N (some (f x)) S → turn (.int x) S N) (hQ : Q ((rng lo hi).map f) S) : wpGather (rangeD lo hi) I S turn Q := by
  rw [rangeD_eq]
  exact gather_map D.int f (by rw [rng_len]; exact hl) hI (fun x hx => hs x (mem_rng.mp hx).1 (mem_rng.mp hx).2) hQ
/-- a comprehension by an invariant -/
theorem gather_inv {items : List D} {I : DStore → Prop} {S : DStore} {turn : D → DStore → (Option D → DStore → Prop) → Prop} {Q : List D → DStore → Prop} (Pv : Nat → List D → DStore → Prop) (hl : items.length ≤ sizeLine) (h0 : Pv 0 [] S) (hI : ∀ i acc S, Pv i acc S → I S ∧ acc.length ≤ i)
    (hs : ∀ (i : Nat) x acc S, items[i]? = some x → Pv i acc S → ∀ N : Option D → DStore → Prop, (∀ y S', Pv (i + 1) (acc ++ [y]) S' → N (some y) S') → (∀ S', Pv (i + 1) acc S' → N none S') → turn x S N) (hQ : ∀ acc S, Pv items.length acc S → Q acc S) : wpGather items I S turn Q := by
  refine ⟨fun i acc S' => Pv i acc S' ∧ i ≤ items.length, ⟨h0, Nat.zero_le _⟩, fun i acc S' ⟨h, hi⟩ => ⟨(hI i acc S' h).1, (hI i acc S' h).2, hi⟩, hl, fun i x acc S' ⟨h, hi⟩ e => ?_, fun acc S' ⟨h, _⟩ => hQ acc S' h⟩
  have hlt := (List.getElem?_eq_some_iff.mp e).1
  exact hs i x acc S' e h _ (fun y S'' hP => ⟨hP, hlt⟩) fun S'' hP => ⟨hP, hlt⟩
/-! ### data facts -/
theorem atI_nat' {α : Type} {xs : List α} {i : Int} {x : α} (h0 : 0 ≤ i) (h : xs[i.toNat]? = some x) : atI xs i = some x := by
  have hl := (List.getElem?_eq_some_iff.mp h).1
  unfold atI ixN
  rw [if_pos h0, if_pos (by omega)]
  exact h
theorem mapM_bl (bs : List Bool) : (bs.map D.bl).mapM blOf = some bs := by
  induction bs with
  | nil => rfl
  | cons b bs ih => simp [List.mapM_cons, blOf, ih]
theorem mapM_in (bs : List Int) : (bs.map D.int).mapM inOf = some bs := by
  induction bs with
  | nil => rfl
  | cons b bs ih => simp [List.mapM_cons, inOf, ih]
theorem mul_small_left {i j : Int} (h1 : -(2 ^ 64) < i) (h2 : i < 2 ^ 64) : MulOk i j := .inl (.inl ⟨h1, h2⟩)
theorem mul_small_right {i j : Int} (h1 : -(2 ^ 64) < j) (h2 : j < 2 ^ 64) : MulOk i j := .inl (.inr ⟨h1, h2⟩)
theorem div_small {j : Int} (h0 : j ≠ 0) (h : j.natAbs < 2 ^ 9000) : DivOk j := ⟨h0, PySem.Flt.log2_lt_of (by decide) h⟩
theorem pow_ok {i j : Int} (h0 : 0 ≤ j) (h1 : j ≤ 1000000) (h2 : i.natAbs < 2 ^ 64) : CPow i j := ⟨h0, h1, h2⟩
/-! ### texts of data -/
theorem log2_small {i : Int} (h : i.natAbs < 10 ^ 12) : i.natAbs.log2 < 1920 := by
  have h40 : i.natAbs < 2 ^ 40 := Nat.lt_of_lt_of_le h (by decide)
  have := PySem.Flt.log2_lt_of (by decide) h40
  omega
mutual
/-- a bound on the text's length; none where a number is too great -/
def costP : PyData → Option Nat
  | .none => some 8
  | .bool _ => some 8
  | .int i => if i.natAbs < 10 ^ 12 then some 16 else none
  | .str x => some (reprText x).length
  | .list xs => (costPs xs).map (· + 8)
  | .tuple xs => (costPs xs).map (· + 8)
  | .dict _ => none
def costPs : List PyData → Option Nat
  | [] => some 0
  | x :: xs => (costP x).bind fun a => (costPs xs).map (a + 2 + ·)
end
mutual
theorem cost_ok : ∀ (p : PyData) (c : Nat), costP p = some c → p.showable = true ∧ p.hasDict = false ∧ p.shown.length ≤ c
  | .none, c, h => by simp [costP] at h; subst h; exact ⟨rfl, rfl, by decide⟩
  | .bool b, c, h => by simp [costP] at h; subst h; exact ⟨rfl, rfl, by cases b <;> decide⟩
  | .int i, c, h => by
    simp only [costP] at h
    split at h
    · rename_i hi
      cases h
      exact ⟨by simp [PyData.showable, log2_small hi], rfl, Nat.le_trans (PyData.shown_int_le hi) (by decide)⟩
    · cases h
  | .str x, c, h => by simp [costP] at h; subst h; exact ⟨rfl, rfl, Nat.le_refl _⟩
  | .list xs, c, h => by
    simp only [costP, Option.map_eq_some_iff] at h
    obtain ⟨n, hn, rfl⟩ := h
    obtain ⟨a, b, d⟩ := costs_ok xs n hn
    refine ⟨a, b, ?_⟩
    have := listText_len_le (PyData.shownAll xs)
    show (listText (PyData.shownAll xs)).length ≤ _
    omega
  | .tuple xs, c, h => by
    simp only [costP, Option.map_eq_some_iff] at h
    obtain ⟨n, hn, rfl⟩ := h
    obtain ⟨a, b, d⟩ := costs_ok xs n hn
    refine ⟨a, b, ?_⟩
    have := tupleText_len_le (PyData.shownAll xs)
    show (tupleText (PyData.shownAll xs)).length ≤ _
    omega
  | .dict _, c, h => by simp [costP] at h
theorem costs_ok : ∀ (xs : List PyData) (c : Nat), costPs xs = some c → PyData.showableAll xs = true ∧ PyData.hasDictAll xs = false ∧ ((PyData.shownAll xs).map (·.length)).sum + 2 * (PyData.shownAll xs).length ≤ c
  | [], c, h => by simp [costPs] at h; subst h; exact ⟨rfl, rfl, by simp [PyData.shownAll]⟩
  | x :: xs, c, h => by
    simp only [costPs, Option.bind_eq_some_iff, Option.map_eq_some_iff] at h
    obtain ⟨n, hn, m, hm, rfl⟩ := h
    obtain ⟨a, b, d⟩ := cost_ok x n hn
    obtain ⟨a', b', d'⟩ := costs_ok xs m hm
    refine ⟨by simp [PyData.showableAll, a, a'], by simp [PyData.hasDictAll, b, b'], ?_⟩
    simp only [PyData.shownAll, List.map_cons, List.sum_cons, List.length_cons]
    omega
end
theorem rep_ok {p : PyData} {c : Nat} (h : costP p = some c) (hc : c ≤ 16000000) (hd : p.depth ≤ 50) : RepOk p := by
  obtain ⟨a, b, d⟩ := cost_ok p c h
  exact ⟨a, hd, b, Nat.le_trans d (Nat.le_trans hc (by decide))⟩
mutual
/-- all numbers small -/
def okP : PyData → Bool
  | .none => true
  | .bool _ => true
  | .int i => decide (i.natAbs < 10 ^ 12)
  | .str x => decide ((reprText x).length ≤ 1000)
  | .list xs => okPs xs
  | .tuple xs => okPs xs
  | .dict _ => false
def okPs : List PyData → Bool
  | [] => true
  | x :: xs => okP x && okPs xs
/-- how many signs at most -/
def szP : PyData → Nat
  | .none => 8
  | .bool _ => 8
  | .int _ => 16
  | .str _ => 1000
  | .list xs => szPs xs + 8
  | .tuple xs => szPs xs + 8
  | .dict _ => 0
def szPs : List PyData → Nat
  | [] => 0
  | x :: xs => szP x + 2 + szPs xs
end
mutual
theorem szP_ok : ∀ p : PyData, okP p = true → p.showable = true ∧ p.hasDict = false ∧ p.shown.length ≤ szP p
  | .none, h => ⟨rfl, rfl, by decide⟩
  | .bool b, h => ⟨rfl, rfl, by cases b <;> decide⟩
  | .int i, h => by
    simp only [okP, decide_eq_true_eq] at h
    exact ⟨by simp [PyData.showable, log2_small h], rfl, Nat.le_trans (PyData.shown_int_le h) (show 13 ≤ 16 by decide)⟩
  | .str x, h => by simp only [okP, decide_eq_true_eq] at h; exact ⟨rfl, rfl, h⟩
  | .list xs, h => by
    simp only [okP] at h
    obtain ⟨a, b, d⟩ := szPs_ok xs h
    refine ⟨a, b, ?_⟩
    have := listText_len_le (PyData.shownAll xs)
    show (listText (PyData.shownAll xs)).length ≤ szPs xs + 8
    omega
  | .tuple xs, h => by
    simp only [okP] at h
    obtain ⟨a, b, d⟩ := szPs_ok xs h
    refine ⟨a, b, ?_⟩
    have := tupleText_len_le (PyData.shownAll xs)
    show (tupleText (PyData.shownAll xs)).length ≤ szPs xs + 8
    omega
  | .dict _, h => by simp [okP] at h
theorem szPs_ok : ∀ xs : List PyData, okPs xs = true → PyData.showableAll xs = true ∧ PyData.hasDictAll xs = false ∧ ((PyData.shownAll xs).map (·.length)).sum + 2 * (PyData.shownAll xs).length ≤ szPs xs
  | [], h => ⟨rfl, rfl, by simp [PyData.shownAll]⟩
  | x :: xs, h => by
    simp only [okPs, Bool.and_eq_true] at h
    obtain ⟨a, b, d⟩ := szP_ok x h.1
    obtain ⟨a', b', d'⟩ := szPs_ok xs h.2
    refine ⟨by simp [PyData.showableAll, a, a'], by simp [PyData.hasDictAll, b, b'], ?_⟩
    simp only [PyData.shownAll, List.map_cons, List.sum_cons, List.length_cons, szPs]
    omega
end
theorem rep_ok2 {p : PyData} (h : okP p = true) (hs : szP p ≤ 16000000) (hd : p.depth ≤ 50) : RepOk p := by
  obtain ⟨a, b, d⟩ := szP_ok p h
  exact ⟨a, hd, b, Nat.le_trans d (Nat.le_trans hs (by decide))⟩
end DL

namespace DL
open PySem PySem.Spec PyProof.Rows L2
/-! ### step by step: each rule fires where the environment is written out -/
def lcTurn (G : Fns) (elt : CE) (tg : CT) (ifs : List CB) (ρ : DEnv) : D → DStore → (Option D → DStore → Prop) → Prop := fun x S' N => wpG G tg x ρ S' fun ρ2 S2 => wpBs G ifs ρ2 S2 fun r S3 => if r = true then wpE G elt ρ2 S3 fun y S4 => N (some y) S4 else N none S3
def forTurn (G : Fns) (t : CT) (b : List CS) (rt : QE) (nx : DEnv → DStore → Prop) : D → DEnv → DStore → (DEnv → DStore → Prop) → Prop := fun x ρ' S' N => wpG G t x ρ' S' fun ρ2 S2 => wpSs G b ρ2 S2 ⟨N, rt, nx, N⟩
def whileTest (G : Fns) (c : CB) : DEnv → DStore → (Bool → DStore → Prop) → Prop := fun ρ S Q => wpB G c ρ S Q
def whileTurn (G : Fns) (b : List CS) (rt : QE) (nx : DEnv → DStore → Prop) : DEnv → DStore → (DEnv → DStore → Prop) → Prop := fun ρ S N => wpSs G b ρ S ⟨N, rt, nx, N⟩
section
variable {G : Fns} {a b c : CE} {r : Option D} {ρ : DEnv} {S : DStore} {Q : QE} {op op' : Operator} {i j : Nat} {K : DEnds}
theorem e_var : wpE G (.var i) (r :: ρ) S Q = ∃ d, (r :: ρ)[i]? = some (some d) ∧ Q d S := by simp only [wpE]
theorem e_con {k : CC} : wpE G (.con k) (r :: ρ) S Q = Q k.d S := by simp only [wpE]
theorem e_glo : wpE G (.glo j) (r :: ρ) S Q = Q (G.gl j) S := by simp only [wpE]
theorem e_bin {m : Bool} : wpE G (.bin op m a b) (r :: ρ) S Q = wpE G a (r :: ρ) S fun x S1 => wpE G b (r :: ρ) S1 fun y S2 => binD op m x y S2 Q := by simp only [wpE]
theorem e_neg : wpE G (.neg a) (r :: ρ) S Q = wpE G a (r :: ρ) S fun x S1 => ∃ i, x = .int i ∧ Q (.int (-i)) S1 := by simp only [wpE]
theorem e_cmp {op : CmpOp} : wpE G (.cmp op a b) (r :: ρ) S Q = wpE G a (r :: ρ) S fun x S1 => wpE G b (r :: ρ) S1 fun y S2 => cmpD op S2 x y fun r => Q (.bl r) S2 := by simp only [wpE]
theorem e_chain {op op' : CmpOp} : wpE G (.chain op op' a b c) (r :: ρ) S Q = wpE G a (r :: ρ) S fun x S1 => wpE G b (r :: ρ) S1 fun y S2 => cmpD op S2 x y fun t => if t = true then wpE G c (r :: ρ) S2 fun z S3 => cmpD op' S3 y z fun r' => Q (.bl r') S3 else Q (.bl false) S2 := by simp only [wpE]
theorem e_and : wpE G (.and_ a b) (r :: ρ) S Q = wpE G a (r :: ρ) S fun x S1 => ∃ c, x = .bl c ∧ if c = true then wpE G b (r :: ρ) S1 Q else Q (.bl false) S1 := by simp only [wpE]
theorem e_or : wpE G (.or_ a b) (r :: ρ) S Q = wpE G a (r :: ρ) S fun x S1 => ∃ c, x = .bl c ∧ if c = true then Q (.bl true) S1 else wpE G b (r :: ρ) S1 Q := by simp only [wpE]
theorem e_not : wpE G (.not_ a) (r :: ρ) S Q = wpE G a (r :: ρ) S fun x S1 => ∃ c, x = .bl c ∧ Q (.bl (!c)) S1 := by simp only [wpE]
theorem e_ite {t : CB} : wpE G (.ite t a b) (r :: ρ) S Q = wpB G t (r :: ρ) S fun c S1 => if c = true then wpE G a (r :: ρ) S1 Q else wpE G b (r :: ρ) S1 Q := by simp only [wpE]
theorem e_tup {es : List CE} : wpE G (.tup es) (r :: ρ) S Q = wpEs G es (r :: ρ) S fun ds S1 => Q (.tup ds) S1 := by simp only [wpE]
theorem e_lst {m : Bool} {es : List CE} : wpE G (.lst m es) (r :: ρ) S Q = wpEs G es (r :: ρ) S fun ds S1 => newL m ds S1 Q := by simp only [wpE]
theorem e_ix : wpE G (.ix a b) (r :: ρ) S Q = wpE G a (r :: ρ) S fun x S1 => wpE G b (r :: ρ) S1 fun y S2 => ixD S2 x y fun d => Q d S2 := by simp only [wpE]
theorem e_sl {m : Bool} {lo hi : CO} : wpE G (.sl m a lo hi) (r :: ρ) S Q = wpE G a (r :: ρ) S fun x S1 => wpO G lo (r :: ρ) S1 fun l S2 => wpO G hi (r :: ρ) S2 fun h S3 => slD m S3 x l h Q := by simp only [wpE]
theorem e_call {es : List CE} : wpE G (.call j es) (r :: ρ) S Q = wpEs G es (r :: ρ) S fun ds S1 => G.fn j ds S1 Q := by simp only [wpE]
theorem e_callK {es kes : List CE} {perm : List Nat} : wpE G (.callK j es kes perm) (r :: ρ) S Q = wpEs G es (r :: ρ) S fun ds S1 => wpEs G kes (r :: ρ) S1 fun ks S2 => G.fn j (ds ++ perm.map fun i => ks.getD i .non) S2 Q := by simp only [wpE]
theorem e_bi {k : BI} {m : Bool} {es : List CE} : wpE G (.bi k m es) (r :: ρ) S Q = wpEs G es (r :: ρ) S fun ds S1 => biD k m ds S1 Q := by simp only [wpE]
theorem e_isi {t : TyB} : wpE G (.isi t a) (r :: ρ) S Q = wpE G a (r :: ρ) S fun x S1 => isiP t x S1 Q := by simp only [wpE]
theorem e_lc {m : Bool} {tg : CT} {it : CI} {ifs : List CB} {own : List Nat} : wpE G (.lc m a tg it ifs own) (r :: ρ) S Q = wpI G it (r :: ρ) S fun items I S1 => wpGather items I S1 (lcTurn G a tg ifs (wipeD (r :: ρ) own)) fun acc S' => newL m acc S' Q := by simp only [wpE]; rfl
theorem es_nil {Q : List D → DStore → Prop} : wpEs G [] (r :: ρ) S Q = Q [] S := by simp only [wpEs]
theorem es_cons {es : List CE} {Q : List D → DStore → Prop} : wpEs G (a :: es) (r :: ρ) S Q = wpE G a (r :: ρ) S fun d S1 => wpEs G es (r :: ρ) S1 fun ds S2 => Q (d :: ds) S2 := by simp only [wpEs]
theorem o_no {Q : Option Int → DStore → Prop} : wpO G .no (r :: ρ) S Q = Q none S := by simp only [wpO]
theorem o_yes {Q : Option Int → DStore → Prop} : wpO G (.yes a) (r :: ρ) S Q = wpE G a (r :: ρ) S fun x S1 => ∃ i, x = .int i ∧ Q (some i) S1 := by simp only [wpO]
section
variable {x y : CB} {Q : Bool → DStore → Prop}
theorem b_and : wpB G (.cand x y) (r :: ρ) S Q = wpB G x (r :: ρ) S fun c S1 => if c = true then wpB G y (r :: ρ) S1 Q else Q false S1 := by simp only [wpB]
theorem b_or : wpB G (.cor x y) (r :: ρ) S Q = wpB G x (r :: ρ) S fun c S1 => if c = true then Q true S1 else wpB G y (r :: ρ) S1 Q := by simp only [wpB]
theorem b_not : wpB G (.cnot x) (r :: ρ) S Q = wpB G x (r :: ρ) S fun c S1 => Q (!c) S1 := by simp only [wpB]
theorem b_cmp {op : CmpOp} : wpB G (.ccmp op a b) (r :: ρ) S Q = wpE G a (r :: ρ) S fun x S1 => wpE G b (r :: ρ) S1 fun y S2 => cmpD op S2 x y fun t => Q t S2 := by simp only [wpB]
theorem b_chain {op op' : CmpOp} : wpB G (.cchain op op' a b c) (r :: ρ) S Q = wpE G a (r :: ρ) S fun x S1 => wpE G b (r :: ρ) S1 fun y S2 => cmpD op S2 x y fun t => if t = true then wpE G c (r :: ρ) S2 fun z S3 => cmpD op' S3 y z fun r' => Q r' S3 else Q false S2 := by simp only [wpB]
theorem b_val : wpB G (.cval a) (r :: ρ) S Q = wpE G a (r :: ρ) S fun x S1 => truD S1 x fun t => Q t S1 := by simp only [wpB]
theorem bs_nil : wpBs G [] (r :: ρ) S Q = Q true S := by simp only [wpBs]
theorem bs_cons {bs : List CB} : wpBs G (x :: bs) (r :: ρ) S Q = wpB G x (r :: ρ) S fun t S1 => if t = true then wpBs G bs (r :: ρ) S1 Q else Q false S1 := by simp only [wpBs]
end
section
variable {d : D} {ts : List CT} {t : CT} {Q : DEnv → DStore → Prop}
theorem g_name : wpG G (.name i) d (r :: ρ) S Q = Q ((r :: ρ).set i (some d)) S := by simp only [wpG]
theorem g_tup : wpG G (.tup ts) d (r :: ρ) S Q = ∃ xs, d = .tup xs ∧ xs.length = ts.length ∧ wpGs G ts xs (r :: ρ) S Q := by simp only [wpG]
theorem g_sub : wpG G (.sub a b) d (r :: ρ) S Q = wpE G a (r :: ρ) S fun x S1 => wpE G b (r :: ρ) S1 fun y S2 => ∃ n xs k j, x = .ref n ∧ y = .int k ∧ S2[n]? = some (.lst xs) ∧ ixN xs.length k = some j ∧ Q (r :: ρ) (S2.set n (.lst (xs.set j d))) := by simp only [wpG]
theorem gs_nil {ds : List D} : wpGs G [] ds (r :: ρ) S Q = Q (r :: ρ) S := by simp only [wpGs]
theorem gs_cons {ds : List D} : wpGs G (t :: ts) (d :: ds) (r :: ρ) S Q = wpG G t d (r :: ρ) S fun ρ1 S1 => wpGs G ts ds ρ1 S1 Q := by
  simp only [wpGs, List.cons.injEq]
  apply propext
  constructor
  · rintro ⟨_, _, ⟨rfl, rfl⟩, h⟩; exact h
  · intro h; exact ⟨_, _, ⟨rfl, rfl⟩, h⟩
end
section
variable {R : RI}
theorem i_seq : wpI G (.seq a) (r :: ρ) S R = wpE G a (r :: ρ) S fun x S1 => itD S1 x R := by simp only [wpI]
theorem i_range1 : wpI G (.range1 a) (r :: ρ) S R = wpE G a (r :: ρ) S fun x S1 => ∃ j, x = .int j ∧ Sm j ∧ R (rangeD 0 j) (fun _ => True) S1 := by simp only [wpI]
theorem i_range3 : wpI G (.range3 a b c) (r :: ρ) S R = wpE G a (r :: ρ) S fun x S1 => wpE G b (r :: ρ) S1 fun y S2 => wpE G c (r :: ρ) S2 fun z S3 => ∃ i j k n, x = .int i ∧ y = .int j ∧ z = .int k ∧ RgC i j k n ∧ R (range3D i k n) (fun _ => True) S3 := by simp only [wpI]
theorem i_enum : wpI G (.enum a) (r :: ρ) S R = wpE G a (r :: ρ) S fun x S1 => enumP S1 x R := by simp only [wpI]
theorem i_zip : wpI G (.zip2 a b) (r :: ρ) S R = wpE G a (r :: ρ) S fun x S1 => wpE G b (r :: ρ) S1 fun y S2 => zipP S2 x y R := by simp only [wpI]
theorem i_range2 : wpI G (.range2 a b) (r :: ρ) S R = wpE G a (r :: ρ) S fun x S1 => wpE G b (r :: ρ) S1 fun y S2 => ∃ i j, x = .int i ∧ y = .int j ∧ Sm i ∧ Sm j ∧ R (rangeD i j) (fun _ => True) S2 := by simp only [wpI]
end
section
variable {e : CE} {t : CT} {ss s1 s2 : List CS} {s : CS} {k : Nat} {cb : CB} {it : CI} {nx : DEnv → DStore → Prop} {rt : QE} {bk ct : DEnv → DStore → Prop}
theorem s_nil : wpSs G [] (r :: ρ) S ⟨nx, rt, bk, ct⟩ = nx (r :: ρ) S := by simp only [wpSs]
theorem s_cons : wpSs G (s :: ss) (r :: ρ) S ⟨nx, rt, bk, ct⟩ = wpS G s (r :: ρ) S ⟨fun ρ1 S1 => wpSs G ss ρ1 S1 ⟨nx, rt, bk, ct⟩, rt, bk, ct⟩ := by simp only [wpSs]
theorem s_expr : wpS G (.expr e) (r :: ρ) S ⟨nx, rt, bk, ct⟩ = wpE G e (r :: ρ) S fun _ S1 => nx (r :: ρ) S1 := by simp only [wpS]
theorem s_ret : wpS G (.ret e) (r :: ρ) S ⟨nx, rt, bk, ct⟩ = wpE G e (r :: ρ) S rt := by simp only [wpS]
theorem s_retN : wpS G .retN (r :: ρ) S ⟨nx, rt, bk, ct⟩ = rt .non S := by simp only [wpS]
theorem s_pass : wpS G .pass (r :: ρ) S ⟨nx, rt, bk, ct⟩ = nx (r :: ρ) S := by simp only [wpS]
theorem s_brk : wpS G .brk (r :: ρ) S ⟨nx, rt, bk, ct⟩ = bk (r :: ρ) S := by simp only [wpS]
theorem s_cont : wpS G .cont (r :: ρ) S ⟨nx, rt, bk, ct⟩ = ct (r :: ρ) S := by simp only [wpS]
theorem s_asg : wpS G (.asg t e) (r :: ρ) S ⟨nx, rt, bk, ct⟩ = wpE G e (r :: ρ) S fun d S1 => wpG G t d (r :: ρ) S1 nx := by simp only [wpS]
theorem s_par2 : wpS G (.par2 i j a b) (r :: ρ) S ⟨nx, rt, bk, ct⟩ = wpE G a (r :: ρ) S fun x S1 => wpE G b (r :: ρ) S1 fun y S2 => nx (((r :: ρ).set i (some x)).set j (some y)) S2 := by simp only [wpS]
theorem s_par3 : wpS G (.par3 i j k a b c) (r :: ρ) S ⟨nx, rt, bk, ct⟩ = wpE G a (r :: ρ) S fun x S1 => wpE G b (r :: ρ) S1 fun y S2 => wpE G c (r :: ρ) S2 fun z S3 => nx ((((r :: ρ).set i (some x)).set j (some y)).set k (some z)) S3 := by simp only [wpS]
theorem s_setLc : wpS G (.setLc i e) (r :: ρ) S ⟨nx, rt, bk, ct⟩ = wpE G e (r :: ρ) S fun d S1 => nx ((r :: ρ).set i (some d)) S1 := by rw [wpS]
theorem s_augA : wpS G (.aug i .Add e) (r :: ρ) S ⟨nx, rt, bk, ct⟩ = ∃ x, (r :: ρ)[i]? = some (some x) ∧ wpE G e (r :: ρ) S fun y S1 => i2 x y fun a b => nx ((r :: ρ).set i (some (.int (a + b)))) S1 := by simp only [wpS]
theorem s_augS : wpS G (.aug i .Sub e) (r :: ρ) S ⟨nx, rt, bk, ct⟩ = ∃ x, (r :: ρ)[i]? = some (some x) ∧ wpE G e (r :: ρ) S fun y S1 => i2 x y fun a b => nx ((r :: ρ).set i (some (.int (a - b)))) S1 := by simp only [wpS]
theorem s_append : wpS G (.append a e) (r :: ρ) S ⟨nx, rt, bk, ct⟩ = wpE G a (r :: ρ) S fun x S1 => ∃ n, x = .ref n ∧ n < S1.length ∧ wpE G e (r :: ρ) S1 fun y S2 => ∃ xs, S2[n]? = some (.lst xs) ∧ xs.length < sizeLine ∧ nx (r :: ρ) (S2.set n (.lst (xs ++ [y]))) := by simp only [wpS]
theorem s_if : wpS G (.if_ cb s1 s2) (r :: ρ) S ⟨nx, rt, bk, ct⟩ = wpB G cb (r :: ρ) S fun t S1 => if t = true then wpSs G s1 (r :: ρ) S1 ⟨nx, rt, bk, ct⟩ else wpSs G s2 (r :: ρ) S1 ⟨nx, rt, bk, ct⟩ := by simp only [wpS]
theorem s_while : wpS G (.while_ cb s1) (r :: ρ) S ⟨nx, rt, bk, ct⟩ = wpLoop (r :: ρ) S (whileTest G cb) (whileTurn G s1 rt nx) nx := by simp only [wpS]; rfl
theorem s_for : wpS G (.for_ t it s1) (r :: ρ) S ⟨nx, rt, bk, ct⟩ = wpI G it (r :: ρ) S fun items I S1 => wpWalk items I (r :: ρ) S1 (forTurn G t s1 rt nx) nx := by simp only [wpS]; rfl
end
end
/-! ### operations on written data -/
section
variable {S : DStore} {Q : QE} {m : Bool} {x y : Int} {QB : Bool → Prop}
theorem o_add : binD .Add m (.int x) (.int y) S Q = Q (.int (x + y)) S := rfl
theorem o_addT {a b : List D} : binD .Add m (.tup a) (.tup b) S Q = (a.length + b.length ≤ sizeLine ∧ Q (.tup (a ++ b)) S) := rfl
theorem o_addL {a b : List D} : binD .Add m (.lst a) (.lst b) S Q = (a.length + b.length ≤ sizeLine ∧ newL m (a ++ b) S Q) := by
  simp [binD, addD, lstOf]
theorem o_sub : binD .Sub m (.int x) (.int y) S Q = Q (.int (x - y)) S := rfl
theorem o_mul : binD .Mult m (.int x) (.int y) S Q = (MulOk x y ∧ Q (.int (x * y)) S) := rfl
theorem o_mulL {a : List D} : binD .Mult m (.lst a) (.int y) S Q = (-(2 ^ 63) ≤ y ∧ y < 2 ^ 63 ∧ a.length * y.toNat ≤ sizeLine ∧ newL m (List.replicate y.toNat a).flatten S Q) := by
  simp [binD, mulD, lstOf]
theorem o_fdiv : binD .FloorDiv m (.int x) (.int y) S Q = (DivOk y ∧ Q (.int (x.fdiv y)) S) := rfl
theorem o_mod : binD .Mod m (.int x) (.int y) S Q = (y ≠ 0 ∧ Q (.int (x.fmod y)) S) := rfl
theorem o_pow : binD .Pow m (.int x) (.int y) S Q = (CPow x y ∧ Q (.int (x ^ y.toNat)) S) := rfl
theorem o_shl : binD .LShift m (.int x) (.int y) S Q = (CPow x y ∧ Q (.int (x * 2 ^ y.toNat)) S) := rfl
theorem o_shr : binD .RShift m (.int x) (.int y) S Q = (0 ≤ y ∧ Q (.int (x / 2 ^ y.toNat)) S) := rfl
theorem q_lt : cmpD .Lt S (.int x) (.int y) QB = QB (decide (x < y)) := rfl
theorem q_le : cmpD .LtE S (.int x) (.int y) QB = QB (decide (x ≤ y)) := rfl
theorem q_gt : cmpD .Gt S (.int x) (.int y) QB = QB (decide (y < x)) := rfl
theorem q_ge : cmpD .GtE S (.int x) (.int y) QB = QB (decide (y ≤ x)) := rfl
theorem q_eqI : cmpD .Eq S (.int x) (.int y) QB = QB (decide (x = y)) := rfl
theorem q_neI : cmpD .NotEq S (.int x) (.int y) QB = QB (!decide (x = y)) := rfl
theorem q_eqS {x y : Str} : cmpD .Eq S (.str x) (.str y) QB = QB (decide (x = y)) := rfl
theorem q_neS {x y : Str} : cmpD .NotEq S (.str x) (.str y) QB = QB (!decide (x = y)) := rfl
theorem q_eqB {x y : Bool} : cmpD .Eq S (.bl x) (.bl y) QB = QB (decide (x = y)) := rfl
theorem q_neB {x y : Bool} : cmpD .NotEq S (.bl x) (.bl y) QB = QB (!decide (x = y)) := rfl
theorem q_isN {d : D} : cmpD .Is S d .non QB = QB (isNon d) := rfl
theorem q_notN {d : D} : cmpD .IsNot S d .non QB = QB (!isNon d) := rfl
theorem q_isB {x y : Bool} : cmpD .Is S (.bl x) (.bl y) QB = QB (decide (x = y)) := by simp [cmpD, isD]
theorem q_notB {x y : Bool} : cmpD .IsNot S (.bl x) (.bl y) QB = QB (!decide (x = y)) := by simp [cmpD, isD]
theorem t_bl {b : Bool} : truD S (.bl b) QB = QB b := rfl
theorem t_int {i : Int} : truD S (.int i) QB = QB (i != 0) := rfl
theorem x_tup {xs : List D} {QD : D → Prop} : ixD S (.tup xs) (.int x) QD = ∃ v, atI xs x = some v ∧ QD v := by simp [ixD, seqOf]
theorem x_lst {xs : List D} {QD : D → Prop} : ixD S (.lst xs) (.int x) QD = ∃ v, atI xs x = some v ∧ QD v := by simp [ixD, seqOf, lstOf]
theorem x_scr {xs : List D} {QD : D → Prop} : ixD S (.scr xs) (.int x) QD = ∃ v, atI xs x = some v ∧ QD v := by simp [ixD, seqOf]
def cellL : Option Cell → Option (List D)
  | some (.lst xs) => some xs
  | _ => none
theorem lstOf_ref {n : Nat} : lstOf S (.ref n) = cellL S[n]? := by
  simp only [lstOf]
  cases S[n]? with
  | none => rfl
  | some c => cases c; rfl
theorem x_ref {n : Nat} {QD : D → Prop} : ixD S (.ref n) (.int x) QD = ∃ xs, cellL S[n]? = some xs ∧ ∃ v, atI xs x = some v ∧ QD v := by simp [ixD, seqOf, lstOf_ref]
theorem c_some {xs : List D} : cellL (some (.lst xs)) = some xs := rfl
theorem n_f {ds : List D} : newL false ds S Q = Q (.lst ds) S := rfl
theorem n_t {ds : List D} : newL true ds S Q = Q (.ref S.length) (S ++ [.lst ds]) := rfl
theorem f_lenT {xs : List D} : biD .len m [.tup xs] S Q = Q (.int xs.length) S := by simp [biD, seqOf]
theorem f_lenL {xs : List D} : biD .len m [.lst xs] S Q = Q (.int xs.length) S := by simp [biD, seqOf, lstOf]
theorem f_lenC {xs : List D} : biD .len m [.scr xs] S Q = Q (.int xs.length) S := by simp [biD, seqOf]
theorem f_lenR {n : Nat} : biD .len m [.ref n] S Q = ∃ xs, cellL S[n]? = some xs ∧ Q (.int xs.length) S := by simp [biD, seqOf, lstOf_ref]
theorem f_abs : biD .abs m [.int x] S Q = Q (.int (if x < 0 then -x else x)) S := rfl
theorem f_min : biD .min2 m [.int x, .int y] S Q = Q (.int (if y < x then y else x)) S := rfl
theorem f_max : biD .max2 m [.int x, .int y] S Q = Q (.int (if y > x then y else x)) S := rfl
theorem f_intI : biD .int1 m [.int x] S Q = Q (.int x) S := rfl
theorem f_intB {b : Bool} : biD .int1 m [.bl b] S Q = Q (.int (if b then 1 else 0)) S := rfl
theorem f_tupT {xs : List D} : biD .tuple1 m [.tup xs] S Q = Q (.tup xs) S := rfl
theorem f_tupL {xs : List D} : biD .tuple1 m [.lst xs] S Q = Q (.tup xs) S := by simp [biD, lstOf]
theorem f_tupR {n : Nat} : biD .tuple1 m [.ref n] S Q = ∃ xs, cellL S[n]? = some xs ∧ Q (.tup xs) S := by simp [biD, lstOf_ref]
theorem f_lstT {xs : List D} : biD .list1 m [.tup xs] S Q = newL m xs S Q := by simp [biD, seqOf]
theorem f_lstL {xs : List D} : biD .list1 m [.lst xs] S Q = newL m xs S Q := by simp [biD, seqOf, lstOf]
theorem f_allB {bs : List Bool} : biD .all1 m [.lst (bs.map D.bl)] S Q = Q (.bl (bs.all id)) S := by
  apply propext
  constructor
  · rintro ⟨xs, cs, e1, e2, q⟩
    cases e1
    rw [mapM_bl] at e2
    cases e2
    exact q
  · intro q; exact ⟨_, _, rfl, mapM_bl bs, q⟩
theorem f_anyB {bs : List Bool} : biD .any1 m [.lst (bs.map D.bl)] S Q = Q (.bl (bs.any id)) S := by
  apply propext
  constructor
  · rintro ⟨xs, cs, e1, e2, q⟩
    cases e1
    rw [mapM_bl] at e2
    cases e2
    exact q
  · intro q; exact ⟨_, _, rfl, mapM_bl bs, q⟩
theorem f_repr {d : D} : biD .repr1 m [d] S Q = ∃ p, purS S d = some p ∧ RepOk p ∧ Q (.str p.shown) S := rfl
theorem y_int {t : TyB} : isiP t (.int x) S Q = Q (.bl (isiD t (.int x))) S := rfl
theorem y_bl {t : TyB} {b : Bool} : isiP t (.bl b) S Q = Q (.bl (isiD t (.bl b))) S := rfl
theorem y_str {t : TyB} {b : Str} : isiP t (.str b) S Q = Q (.bl (isiD t (.str b))) S := rfl
theorem y_non {t : TyB} : isiP t .non S Q = Q (.bl (isiD t .non)) S := rfl
theorem y_tup {t : TyB} {b : List D} : isiP t (.tup b) S Q = Q (.bl (isiD t (.tup b))) S := rfl
theorem y_lst {t : TyB} {b : List D} : isiP t (.lst b) S Q = Q (.bl (isiD t (.lst b))) S := rfl
theorem z_tup {xs ys : List D} {R : RI} : zipP S (.tup xs) (.tup ys) R = R (zipD xs ys) (fun _ => True) S := rfl
theorem z_lst {xs ys : List D} {R : RI} : zipP S (.lst xs) (.lst ys) R = R (zipD xs ys) (fun _ => True) S := by simp [zipP, lstOf]
theorem z_enum {xs : List D} {R : RI} : enumP S (.lst xs) R = R (enumD xs) (fun _ => True) S := by simp [enumP, lstOf]
theorem t_tup {xs : List D} {R : RI} : itD S (.tup xs) R = R xs (fun _ => True) S := rfl
theorem t_lst {xs : List D} {R : RI} : itD S (.lst xs) R = R xs (fun _ => True) S := rfl
theorem a_0 {α : Type} {a : α} {l : List α} : atI (a :: l) 0 = some a := by simp [atI, ixN]
theorem a_1 {α : Type} {a b : α} {l : List α} : atI (a :: b :: l) 1 = some b := atI_nat' (by decide) rfl
theorem a_2 {α : Type} {a b c : α} {l : List α} : atI (a :: b :: c :: l) 2 = some c := atI_nat' (by decide) rfl
theorem a_3 {α : Type} {a b c d : α} {l : List α} : atI (a :: b :: c :: d :: l) 3 = some d := atI_nat' (by decide) rfl
theorem a_4 {α : Type} {a b c d e : α} {l : List α} : atI (a :: b :: c :: d :: e :: l) 4 = some e := atI_nat' (by decide) rfl
theorem a_5 {α : Type} {a b c d e f : α} {l : List α} : atI (a :: b :: c :: d :: e :: f :: l) 5 = some f := atI_nat' (by decide) rfl
theorem a_6 {α : Type} {a b c d e f g : α} {l : List α} : atI (a :: b :: c :: d :: e :: f :: g :: l) 6 = some g := atI_nat' (by decide) rfl
theorem ex_some {α : Type} {a : α} {P : α → Prop} : (∃ v, some a = some v ∧ P v) = P a := by simp
theorem ex_env {a : D} {P : D → Prop} : (∃ v, some (some a) = some (some v) ∧ P v) = P a := by simp
theorem ex_int {i : Int} {P : Int → Prop} : (∃ j, D.int i = D.int j ∧ P j) = P i := by simp
theorem ex_bl {i : Bool} {P : Bool → Prop} : (∃ j, D.bl i = D.bl j ∧ P j) = P i := by simp
theorem ex_ref {i : Nat} {P : Nat → Prop} : (∃ j, D.ref i = D.ref j ∧ P j) = P i := by simp
theorem ex_tup {xs : List D} {P : List D → Prop} : (∃ ys, D.tup xs = D.tup ys ∧ P ys) = P xs := by simp
theorem ex_int2 {i j : Int} {P : Int → Int → Prop} : (∃ a b, D.int i = D.int a ∧ D.int j = D.int b ∧ P a b) = P i j := by simp
theorem ex_sub {n : Nat} {x : Int} {A : Nat → List D → Prop} {B : List D → Int → Nat → Prop} {P : Nat → List D → Int → Nat → Prop} : (∃ n' xs k j, D.ref n = D.ref n' ∧ D.int x = D.int k ∧ A n' xs ∧ B xs k j ∧ P n' xs k j) = ∃ xs, A n xs ∧ ∃ j, B xs x j ∧ P n xs x j := by
  apply propext
  constructor
  · rintro ⟨_, xs, _, j, e1, e2, h1, h2, h3⟩
    cases e1; cases e2
    exact ⟨xs, h1, j, h2, h3⟩
  · rintro ⟨xs, h1, j, h2, h3⟩
    exact ⟨n, xs, x, j, rfl, rfl, h1, h2, h3⟩
theorem ex_cell {L : List D} {P : List D → Prop} : (∃ xs, some (Cell.lst L) = some (Cell.lst xs) ∧ P xs) = P L := by simp
theorem ix_30 : ixN 3 0 = some 0 := rfl
theorem ix_31 : ixN 3 1 = some 1 := rfl
theorem ix_32 : ixN 3 2 = some 2 := rfl
theorem ix_n {n : Nat} {k : Int} (h0 : 0 ≤ k) (h1 : k < (n : Int)) : ixN n k = some k.toNat := by
  unfold ixN
  rw [if_pos h0, if_pos h1]
end
end DL

namespace DL
open PySem PySem.Spec PyProof.Rows L2
/-! ### the draws of a law -/
def takeC : List CS := [.if_ (.ccmp .Gt (.ix (.var 0) (.con (.int 0))) (.con (.int 0))) [.asg (.name 7) (.bin .Mod false (.ix (.var 0) (.con (.int 0))) (.var 1)),
    .asg (.sub (.var 0) (.con (.int 0))) (.bin .FloorDiv false (.ix (.var 0) (.con (.int 0))) (.var 1)),
    .ret (.var 7)] [],
  .asg (.name 2) (.bin .Add false (.ix (.var 0) (.con (.int 2))) (.con (.int 1))),
  .asg (.sub (.var 0) (.con (.int 2))) (.var 2),
  .asg (.name 3) (.bin .Add false (.ix (.var 0) (.con (.int 1))) (.bin .Mult false (.con (.int 15485867)) (.var 2))),
  .asg (.name 4) (.bin .Add false (.bin .Add false (.bin .Mod false (.ix (.var 0) (.con (.int 1))) (.con (.int 7907))) (.bin .Mult false (.con (.int 32452867)) (.var 2))) (.con (.int 19))),
  .asg (.name 5) (.bin .Mod false (.bin .Mult false (.var 3) (.var 4)) (.con (.int 2305843009213693951))),
  .asg (.name 6) (.bin .Add false (.bin .Add false (.bin .Mod false (.var 5) (.con (.int 1000003))) (.bin .Mult false (.con (.int 6700441)) (.var 2))) (.con (.int 7))),
  .ret (.bin .Mod false (.bin .FloorDiv false (.bin .Mod false (.bin .Mult false (.bin .Add false (.var 5) (.con (.int 11))) (.var 6)) (.con (.int 2305843009213693907))) (.con (.int 64))) (.var 1))]
def potC (g m t : Int) : Cell := .lst [.int g, .int m, .int t]
structure POk (g m t : Int) : Prop where
  g0 : 0 ≤ g
  gb : g < 10 ^ 180
  m0 : 0 ≤ m
  mb : m < 2 ^ 61
  t0 : 0 ≤ t
  tb : t ≤ 1000000000
def spTake (ds : List D) (S : DStore) (Q : QE) : Prop := ∃ n many g m t, ds = [.ref n, .int many] ∧ S[n]? = some (potC g m t) ∧ POk g m t ∧ t < 1000000000 ∧ 0 < many ∧ many < 2 ^ 60 ∧
  ∀ v g' t', 0 ≤ v → v < many → POk g' m t' → t ≤ t' → t' ≤ t + 1 → Q (.int v) (S.set n (potC g' m t'))
theorem spTake_len : ∀ ds S Q, spTake ds S Q → ds.length = 2 := by
  rintro ds S Q ⟨n, many, g, m, t, rfl, _⟩; rfl
theorem set_get {S : DStore} {n : Nat} {c d : Cell} (h : S[n]? = some c) : (S.set n d)[n]? = some d := by
  rw [List.getElem?_set_self (List.getElem?_eq_some_iff.mp h).1]
theorem if_i {c : Prop} [Decidable c] {A B : Prop} (h1 : c → A) (h2 : ¬ c → B) : if c then A else B := by split <;> simp_all
theorem fmod_pos {a b : Int} (h : 0 < b) : 0 ≤ a.fmod b ∧ a.fmod b < b := ⟨Int.fmod_nonneg_of_pos a h, Int.fmod_lt_of_pos a h⟩
theorem take_ok {G : Fns} : ∀ ds S Q, spTake ds S Q → wpSs G takeC (startD 8 ds) S { nx := fun _ S' => Q .non S', rt := Q } := by
  rintro ds S Q ⟨n, many, g, m, t, rfl, hS, ok, htb, hm0, hmb, hQ⟩
  have hS' : S[n]? = some (.lst [.int g, .int m, .int t]) := hS
  have hmk : ∀ c : Cell, (S.set n c)[n]? = some c := fun c => set_get hS
  unfold takeC
  simp only [DL.e_var, DL.e_con, DL.e_glo, DL.e_bin, DL.e_neg, DL.e_cmp, DL.e_chain, DL.e_and, DL.e_or, DL.e_not, DL.e_ite, DL.e_tup, DL.e_lst, DL.e_ix, DL.e_sl, DL.e_call, DL.e_callK, DL.e_bi, DL.e_isi, DL.e_lc, DL.es_nil, DL.es_cons, DL.o_no, DL.o_yes, DL.b_and, DL.b_or, DL.b_not, DL.b_cmp, DL.b_chain, DL.b_val, DL.bs_nil, DL.bs_cons, DL.g_name, DL.g_tup, DL.g_sub, DL.gs_nil, DL.gs_cons, DL.i_seq, DL.i_range1, DL.i_range2, DL.i_range3, DL.i_enum, DL.i_zip, DL.s_nil, DL.s_cons, DL.s_expr, DL.s_ret, DL.s_retN, DL.s_pass, DL.s_brk, DL.s_cont, DL.s_asg, DL.s_par2, DL.s_par3, DL.s_setLc, DL.s_augA, DL.s_augS, DL.s_append, DL.s_if, DL.s_while, DL.s_for, DL.o_add, DL.o_addT, DL.o_addL, DL.o_sub, DL.o_mul, DL.o_mulL, DL.o_fdiv, DL.o_mod, DL.o_pow, DL.o_shl, DL.o_shr, DL.q_lt, DL.q_le, DL.q_gt, DL.q_ge, DL.q_eqI, DL.q_neI, DL.q_eqS, DL.q_neS, DL.q_eqB, DL.q_neB, DL.q_isN, DL.q_notN, DL.q_isB, DL.q_notB, DL.t_bl, DL.t_int, DL.x_tup, DL.x_lst, DL.x_scr, DL.x_ref, DL.c_some, DL.n_f, DL.n_t, DL.f_lenT, DL.f_lenL, DL.f_lenC, DL.f_lenR, DL.f_abs, DL.f_min, DL.f_max, DL.f_intI, DL.f_intB, DL.f_tupT, DL.f_tupL, DL.f_tupR, DL.f_lstT, DL.f_lstL, DL.y_int, DL.y_bl, DL.y_str, DL.y_non, DL.y_tup, DL.y_lst, DL.z_tup, DL.z_lst, DL.z_enum, DL.isiD, DL.t_tup, DL.t_lst, DL.a_0, DL.a_1, DL.a_2, DL.a_3, DL.a_4, DL.a_5, DL.a_6, DL.ex_some, DL.ex_env, DL.ex_int, DL.ex_bl, DL.ex_ref, DL.ex_tup, DL.ex_int2, DL.ex_sub, DL.ex_cell, DL.ix_30, DL.ix_31, DL.ix_32, DL.CC.d, DL.startD, DL.wipeD, DL.i2, List.map_cons, List.map_nil, List.length_cons, List.length_nil, List.replicate, List.cons_append, List.nil_append, List.getElem?_cons_zero, List.getElem?_cons_succ, List.set_cons_zero, List.set_cons_succ, Nat.zero_add, Nat.reduceAdd, Nat.reduceSub, decide_eq_true_eq, Bool.not_eq_true', decide_eq_false_iff_not, if_true, Bool.false_eq_true, if_false, ite_true, ite_false, List.getD_cons_zero, List.getD_cons_succ, eq_self, not_true_eq_false, not_false_eq_true, Bool.true_eq_false, Bool.not_true, Bool.not_false, hS', hmk]
  have h64 : (2305843009213693951 : Int) < 2 ^ 64 := by decide
  have m0 := ok.m0
  have mb := ok.mb
  have t0 := ok.t0
  have g0 := ok.g0
  split
  · rename_i hg
    have hd := fmod_pos (a := g) hm0
    refine ⟨by omega, div_small (by omega) ?_, hQ _ _ t hd.1 hd.2 ⟨?_, ?_, m0, mb, t0, ok.tb⟩ (Int.le_refl _) (by omega)⟩
    · have : many.natAbs < 2 ^ 60 := by omega
      exact Nat.lt_of_lt_of_le this (Nat.pow_le_pow_right (by decide) (by decide))
    · rw [Int.fdiv_eq_ediv_of_nonneg _ (by omega)]; exact Int.ediv_nonneg g0 (by omega)
    · rw [Int.fdiv_eq_ediv_of_nonneg _ (by omega)]
      exact Int.lt_of_le_of_lt (Int.ediv_le_self _ g0) ok.gb
  · refine ⟨mul_small_left (by decide) (by decide), by decide, mul_small_left (by decide) (by decide), ?_⟩
    have hd := fmod_pos (a := m) (b := 7907) (by decide)
    refine ⟨mul_small_left (by omega) (by omega), by decide, by decide, mul_small_left (by decide) (by decide), ?_⟩
    generalize (m + 15485867 * (t + 1)) * (m.fmod 7907 + 32452867 * (t + 1) + 19) = A
    have hA := fmod_pos (a := A) (b := 2305843009213693951) (by decide)
    refine ⟨mul_small_left (by omega) (by omega), by decide, div_small (by decide) ?_, by omega, ?_⟩
    · exact Nat.lt_of_lt_of_le (show (64 : Int).natAbs < 2 ^ 7 by decide) (Nat.pow_le_pow_right (by decide) (by decide))
    · have hv := fmod_pos (a := (((A.fmod 2305843009213693951 + 11) * ((A.fmod 2305843009213693951).fmod 1000003 + 6700441 * (t + 1) + 7)).fmod 2305843009213693907).fdiv 64) hm0
      exact hQ _ g (t + 1) hv.1 hv.2 ⟨g0, ok.gb, m0, mb, by omega, by omega⟩ (by omega) (Int.le_refl _)
/-- what a draw is: one of some -/
def pickC (j : Nat) : List CS := [.ret (.ix (.var 1) (.call j [(.var 0), (.bi .len false [(.var 1)])]))]
def spPick (ds : List D) (S : DStore) (Q : QE) : Prop := ∃ n d xs g m t, ds = [.ref n, d] ∧ (d = .lst xs ∨ d = .tup xs) ∧ S[n]? = some (potC g m t) ∧ POk g m t ∧ t < 1000000000 ∧ xs ≠ [] ∧ xs.length < 2 ^ 50 ∧
  ∀ y g' t', y ∈ xs → POk g' m t' → t ≤ t' → t' ≤ t + 1 → Q y (S.set n (potC g' m t'))
theorem spPick_len : ∀ ds S Q, spPick ds S Q → ds.length = 2 := by
  rintro ds S Q ⟨n, d, xs, g, m, t, rfl, _⟩; rfl
theorem pick_ok {G : Fns} {j : Nat} (hG : G.fn j = spTake) : ∀ ds S Q, spPick ds S Q → wpSs G (pickC j) (startD 2 ds) S { nx := fun _ S' => Q .non S', rt := Q } := by
  rintro ds S Q ⟨n, d, xs, g, m, t, rfl, hd, hS, ok, htb, hx, hxl, hQ⟩
  have hl : 0 < xs.length := List.length_pos_iff.mpr hx
  unfold pickC
  have fin : ∀ v g' t', 0 ≤ v → v < (xs.length : Int) → POk g' m t' → t ≤ t' → t' ≤ t + 1 → ∃ y, atI xs v = some y ∧ Q y (S.set n (potC g' m t')) := by
    intro v g' t' h0 h1 ok' h2 h3
    have hi : v.toNat < xs.length := by omega
    exact ⟨xs[v.toNat], atI_nat' h0 (List.getElem?_eq_getElem hi), hQ _ _ _ (List.getElem_mem hi) ok' h2 h3⟩
  rcases hd with rfl | rfl
  · simp only [DL.e_var, DL.e_con, DL.e_glo, DL.e_bin, DL.e_neg, DL.e_cmp, DL.e_chain, DL.e_and, DL.e_or, DL.e_not, DL.e_ite, DL.e_tup, DL.e_lst, DL.e_ix, DL.e_sl, DL.e_call, DL.e_callK, DL.e_bi, DL.e_isi, DL.e_lc, DL.es_nil, DL.es_cons, DL.o_no, DL.o_yes, DL.b_and, DL.b_or, DL.b_not, DL.b_cmp, DL.b_chain, DL.b_val, DL.bs_nil, DL.bs_cons, DL.g_name, DL.g_tup, DL.g_sub, DL.gs_nil, DL.gs_cons, DL.i_seq, DL.i_range1, DL.i_range2, DL.i_range3, DL.i_enum, DL.i_zip, DL.s_nil, DL.s_cons, DL.s_expr, DL.s_ret, DL.s_retN, DL.s_pass, DL.s_brk, DL.s_cont, DL.s_asg, DL.s_par2, DL.s_par3, DL.s_setLc, DL.s_augA, DL.s_augS, DL.s_append, DL.s_if, DL.s_while, DL.s_for, DL.o_add, DL.o_addT, DL.o_addL, DL.o_sub, DL.o_mul, DL.o_mulL, DL.o_fdiv, DL.o_mod, DL.o_pow, DL.o_shl, DL.o_shr, DL.q_lt, DL.q_le, DL.q_gt, DL.q_ge, DL.q_eqI, DL.q_neI, DL.q_eqS, DL.q_neS, DL.q_eqB, DL.q_neB, DL.q_isN, DL.q_notN, DL.q_isB, DL.q_notB, DL.t_bl, DL.t_int, DL.x_tup, DL.x_lst, DL.x_scr, DL.x_ref, DL.c_some, DL.n_f, DL.n_t, DL.f_lenT, DL.f_lenL, DL.f_lenC, DL.f_lenR, DL.f_abs, DL.f_min, DL.f_max, DL.f_intI, DL.f_intB, DL.f_tupT, DL.f_tupL, DL.f_tupR, DL.f_lstT, DL.f_lstL, DL.y_int, DL.y_bl, DL.y_str, DL.y_non, DL.y_tup, DL.y_lst, DL.z_tup, DL.z_lst, DL.z_enum, DL.isiD, DL.t_tup, DL.t_lst, DL.a_0, DL.a_1, DL.a_2, DL.a_3, DL.a_4, DL.a_5, DL.a_6, DL.ex_some, DL.ex_env, DL.ex_int, DL.ex_bl, DL.ex_ref, DL.ex_tup, DL.ex_int2, DL.ex_sub, DL.ex_cell, DL.ix_30, DL.ix_31, DL.ix_32, DL.CC.d, DL.startD, DL.wipeD, DL.i2, List.map_cons, List.map_nil, List.length_cons, List.length_nil, List.replicate, List.cons_append, List.nil_append, List.getElem?_cons_zero, List.getElem?_cons_succ, List.set_cons_zero, List.set_cons_succ, Nat.zero_add, Nat.reduceAdd, Nat.reduceSub, decide_eq_true_eq, Bool.not_eq_true', decide_eq_false_iff_not, if_true, Bool.false_eq_true, if_false, ite_true, ite_false, List.getD_cons_zero, List.getD_cons_succ, eq_self, not_true_eq_false, not_false_eq_true, Bool.true_eq_false, Bool.not_true, Bool.not_false, hG]
    refine ⟨n, _, g, m, t, rfl, hS, ok, htb, by omega, by omega, fun v g' t' h0 h1 ok' h2 h3 => ?_⟩
    simp only [DL.e_var, DL.e_con, DL.e_glo, DL.e_bin, DL.e_neg, DL.e_cmp, DL.e_chain, DL.e_and, DL.e_or, DL.e_not, DL.e_ite, DL.e_tup, DL.e_lst, DL.e_ix, DL.e_sl, DL.e_call, DL.e_callK, DL.e_bi, DL.e_isi, DL.e_lc, DL.es_nil, DL.es_cons, DL.o_no, DL.o_yes, DL.b_and, DL.b_or, DL.b_not, DL.b_cmp, DL.b_chain, DL.b_val, DL.bs_nil, DL.bs_cons, DL.g_name, DL.g_tup, DL.g_sub, DL.gs_nil, DL.gs_cons, DL.i_seq, DL.i_range1, DL.i_range2, DL.i_range3, DL.i_enum, DL.i_zip, DL.s_nil, DL.s_cons, DL.s_expr, DL.s_ret, DL.s_retN, DL.s_pass, DL.s_brk, DL.s_cont, DL.s_asg, DL.s_par2, DL.s_par3, DL.s_setLc, DL.s_augA, DL.s_augS, DL.s_append, DL.s_if, DL.s_while, DL.s_for, DL.o_add, DL.o_addT, DL.o_addL, DL.o_sub, DL.o_mul, DL.o_mulL, DL.o_fdiv, DL.o_mod, DL.o_pow, DL.o_shl, DL.o_shr, DL.q_lt, DL.q_le, DL.q_gt, DL.q_ge, DL.q_eqI, DL.q_neI, DL.q_eqS, DL.q_neS, DL.q_eqB, DL.q_neB, DL.q_isN, DL.q_notN, DL.q_isB, DL.q_notB, DL.t_bl, DL.t_int, DL.x_tup, DL.x_lst, DL.x_scr, DL.x_ref, DL.c_some, DL.n_f, DL.n_t, DL.f_lenT, DL.f_lenL, DL.f_lenC, DL.f_lenR, DL.f_abs, DL.f_min, DL.f_max, DL.f_intI, DL.f_intB, DL.f_tupT, DL.f_tupL, DL.f_tupR, DL.f_lstT, DL.f_lstL, DL.y_int, DL.y_bl, DL.y_str, DL.y_non, DL.y_tup, DL.y_lst, DL.z_tup, DL.z_lst, DL.z_enum, DL.isiD, DL.t_tup, DL.t_lst, DL.a_0, DL.a_1, DL.a_2, DL.a_3, DL.a_4, DL.a_5, DL.a_6, DL.ex_some, DL.ex_env, DL.ex_int, DL.ex_bl, DL.ex_ref, DL.ex_tup, DL.ex_int2, DL.ex_sub, DL.ex_cell, DL.ix_30, DL.ix_31, DL.ix_32, DL.CC.d, DL.startD, DL.wipeD, DL.i2, List.map_cons, List.map_nil, List.length_cons, List.length_nil, List.replicate, List.cons_append, List.nil_append, List.getElem?_cons_zero, List.getElem?_cons_succ, List.set_cons_zero, List.set_cons_succ, Nat.zero_add, Nat.reduceAdd, Nat.reduceSub, decide_eq_true_eq, Bool.not_eq_true', decide_eq_false_iff_not, if_true, Bool.false_eq_true, if_false, ite_true, ite_false, List.getD_cons_zero, List.getD_cons_succ, eq_self, not_true_eq_false, not_false_eq_true, Bool.true_eq_false, Bool.not_true, Bool.not_false]
    exact fin v g' t' h0 h1 ok' h2 h3
  · simp only [DL.e_var, DL.e_con, DL.e_glo, DL.e_bin, DL.e_neg, DL.e_cmp, DL.e_chain, DL.e_and, DL.e_or, DL.e_not, DL.e_ite, DL.e_tup, DL.e_lst, DL.e_ix, DL.e_sl, DL.e_call, DL.e_callK, DL.e_bi, DL.e_isi, DL.e_lc, DL.es_nil, DL.es_cons, DL.o_no, DL.o_yes, DL.b_and, DL.b_or, DL.b_not, DL.b_cmp, DL.b_chain, DL.b_val, DL.bs_nil, DL.bs_cons, DL.g_name, DL.g_tup, DL.g_sub, DL.gs_nil, DL.gs_cons, DL.i_seq, DL.i_range1, DL.i_range2, DL.i_range3, DL.i_enum, DL.i_zip, DL.s_nil, DL.s_cons, DL.s_expr, DL.s_ret, DL.s_retN, DL.s_pass, DL.s_brk, DL.s_cont, DL.s_asg, DL.s_par2, DL.s_par3, DL.s_setLc, DL.s_augA, DL.s_augS, DL.s_append, DL.s_if, DL.s_while, DL.s_for, DL.o_add, DL.o_addT, DL.o_addL, DL.o_sub, DL.o_mul, DL.o_mulL, DL.o_fdiv, DL.o_mod, DL.o_pow, DL.o_shl, DL.o_shr, DL.q_lt, DL.q_le, DL.q_gt, DL.q_ge, DL.q_eqI, DL.q_neI, DL.q_eqS, DL.q_neS, DL.q_eqB, DL.q_neB, DL.q_isN, DL.q_notN, DL.q_isB, DL.q_notB, DL.t_bl, DL.t_int, DL.x_tup, DL.x_lst, DL.x_scr, DL.x_ref, DL.c_some, DL.n_f, DL.n_t, DL.f_lenT, DL.f_lenL, DL.f_lenC, DL.f_lenR, DL.f_abs, DL.f_min, DL.f_max, DL.f_intI, DL.f_intB, DL.f_tupT, DL.f_tupL, DL.f_tupR, DL.f_lstT, DL.f_lstL, DL.y_int, DL.y_bl, DL.y_str, DL.y_non, DL.y_tup, DL.y_lst, DL.z_tup, DL.z_lst, DL.z_enum, DL.isiD, DL.t_tup, DL.t_lst, DL.a_0, DL.a_1, DL.a_2, DL.a_3, DL.a_4, DL.a_5, DL.a_6, DL.ex_some, DL.ex_env, DL.ex_int, DL.ex_bl, DL.ex_ref, DL.ex_tup, DL.ex_int2, DL.ex_sub, DL.ex_cell, DL.ix_30, DL.ix_31, DL.ix_32, DL.CC.d, DL.startD, DL.wipeD, DL.i2, List.map_cons, List.map_nil, List.length_cons, List.length_nil, List.replicate, List.cons_append, List.nil_append, List.getElem?_cons_zero, List.getElem?_cons_succ, List.set_cons_zero, List.set_cons_succ, Nat.zero_add, Nat.reduceAdd, Nat.reduceSub, decide_eq_true_eq, Bool.not_eq_true', decide_eq_false_iff_not, if_true, Bool.false_eq_true, if_false, ite_true, ite_false, List.getD_cons_zero, List.getD_cons_succ, eq_self, not_true_eq_false, not_false_eq_true, Bool.true_eq_false, Bool.not_true, Bool.not_false, hG]
    refine ⟨n, _, g, m, t, rfl, hS, ok, htb, by omega, by omega, fun v g' t' h0 h1 ok' h2 h3 => ?_⟩
    simp only [DL.e_var, DL.e_con, DL.e_glo, DL.e_bin, DL.e_neg, DL.e_cmp, DL.e_chain, DL.e_and, DL.e_or, DL.e_not, DL.e_ite, DL.e_tup, DL.e_lst, DL.e_ix, DL.e_sl, DL.e_call, DL.e_callK, DL.e_bi, DL.e_isi, DL.e_lc, DL.es_nil, DL.es_cons, DL.o_no, DL.o_yes, DL.b_and, DL.b_or, DL.b_not, DL.b_cmp, DL.b_chain, DL.b_val, DL.bs_nil, DL.bs_cons, DL.g_name, DL.g_tup, DL.g_sub, DL.gs_nil, DL.gs_cons, DL.i_seq, DL.i_range1, DL.i_range2, DL.i_range3, DL.i_enum, DL.i_zip, DL.s_nil, DL.s_cons, DL.s_expr, DL.s_ret, DL.s_retN, DL.s_pass, DL.s_brk, DL.s_cont, DL.s_asg, DL.s_par2, DL.s_par3, DL.s_setLc, DL.s_augA, DL.s_augS, DL.s_append, DL.s_if, DL.s_while, DL.s_for, DL.o_add, DL.o_addT, DL.o_addL, DL.o_sub, DL.o_mul, DL.o_mulL, DL.o_fdiv, DL.o_mod, DL.o_pow, DL.o_shl, DL.o_shr, DL.q_lt, DL.q_le, DL.q_gt, DL.q_ge, DL.q_eqI, DL.q_neI, DL.q_eqS, DL.q_neS, DL.q_eqB, DL.q_neB, DL.q_isN, DL.q_notN, DL.q_isB, DL.q_notB, DL.t_bl, DL.t_int, DL.x_tup, DL.x_lst, DL.x_scr, DL.x_ref, DL.c_some, DL.n_f, DL.n_t, DL.f_lenT, DL.f_lenL, DL.f_lenC, DL.f_lenR, DL.f_abs, DL.f_min, DL.f_max, DL.f_intI, DL.f_intB, DL.f_tupT, DL.f_tupL, DL.f_tupR, DL.f_lstT, DL.f_lstL, DL.y_int, DL.y_bl, DL.y_str, DL.y_non, DL.y_tup, DL.y_lst, DL.z_tup, DL.z_lst, DL.z_enum, DL.isiD, DL.t_tup, DL.t_lst, DL.a_0, DL.a_1, DL.a_2, DL.a_3, DL.a_4, DL.a_5, DL.a_6, DL.ex_some, DL.ex_env, DL.ex_int, DL.ex_bl, DL.ex_ref, DL.ex_tup, DL.ex_int2, DL.ex_sub, DL.ex_cell, DL.ix_30, DL.ix_31, DL.ix_32, DL.CC.d, DL.startD, DL.wipeD, DL.i2, List.map_cons, List.map_nil, List.length_cons, List.length_nil, List.replicate, List.cons_append, List.nil_append, List.getElem?_cons_zero, List.getElem?_cons_succ, List.set_cons_zero, List.set_cons_succ, Nat.zero_add, Nat.reduceAdd, Nat.reduceSub, decide_eq_true_eq, Bool.not_eq_true', decide_eq_false_iff_not, if_true, Bool.false_eq_true, if_false, ite_true, ite_false, List.getD_cons_zero, List.getD_cons_succ, eq_self, not_true_eq_false, not_false_eq_true, Bool.true_eq_false, Bool.not_true, Bool.not_false]
    exact fin v g' t' h0 h1 ok' h2 h3
/-- a draw where nothing else in the store is asked for -/
theorem takeA {n : Nat} {many g m t : Int} {S : DStore} {Q : QE} (hS : S[n]? = some (potC g m t)) (ok : POk g m t) (ht : t < 1000000000) (h0 : 0 < many) (hb : many < 2 ^ 60)
    (h : ∀ v g' t' S', 0 ≤ v → v < many → POk g' m t' → t' ≤ t + 1 → S'[n]? = some (potC g' m t') → Q (.int v) S') : spTake [.ref n, .int many] S Q :=
  ⟨n, many, g, m, t, rfl, hS, ok, ht, h0, hb, fun v g' t' a b c _ d => h v g' t' _ a b c d (set_get hS)⟩
theorem pickA {n : Nat} {xs : List D} {g m t : Int} {S : DStore} {Q : QE} (hS : S[n]? = some (potC g m t)) (ok : POk g m t) (ht : t < 1000000000)
    (h : ∀ y g' t' S', y ∈ xs → POk g' m t' → t' ≤ t + 1 → S'[n]? = some (potC g' m t') → Q y S') (hx : xs ≠ [] := by simp) (hl : xs.length ≤ 1000000 := by simp) : spPick [.ref n, .lst xs] S Q :=
  ⟨n, _, xs, g, m, t, rfl, .inl rfl, hS, ok, ht, hx, Nat.lt_of_le_of_lt hl (by decide), fun y g' t' a b _ c => h y g' t' _ a b c (set_get hS)⟩
theorem takeF {n : Nat} {many g m t : Int} {S : DStore} {Q : QE} (hS : S[n]? = some (potC g m t)) (ok : POk g m t) (ht : t < 1000000000) (h0 : 0 < many) (hb : many < 2 ^ 60)
    (h : ∀ v g' t' S', 0 ≤ v → v < many → POk g' m t' → t' ≤ t + 1 → S'[n]? = some (potC g' m t') → (∀ j, j ≠ n → S'[j]? = S[j]?) → Q (.int v) S') : spTake [.ref n, .int many] S Q :=
  ⟨n, many, g, m, t, rfl, hS, ok, ht, h0, hb, fun v g' t' a b c _ d => h v g' t' _ a b c d (set_get hS) fun j hj => List.getElem?_set_ne (fun z => hj z.symm)⟩
theorem pickF {n : Nat} {xs : List D} {g m t : Int} {S : DStore} {Q : QE} (hS : S[n]? = some (potC g m t)) (ok : POk g m t) (ht : t < 1000000000)
    (h : ∀ y g' t' S', y ∈ xs → POk g' m t' → t' ≤ t + 1 → S'[n]? = some (potC g' m t') → (∀ j, j ≠ n → S'[j]? = S[j]?) → Q y S') (hx : xs ≠ [] := by simp) (hl : xs.length ≤ 1000000 := by simp) : spPick [.ref n, .lst xs] S Q :=
  ⟨n, _, xs, g, m, t, rfl, .inl rfl, hS, ok, ht, hx, Nat.lt_of_le_of_lt hl (by decide), fun y g' t' a b _ c => h y g' t' _ a b c (set_get hS) fun j hj => List.getElem?_set_ne (fun z => hj z.symm)⟩
theorem repr4 {S : DStore} {m : Bool} {d : D} {p : PyData} {Q : QE} (e : purS S d = some p) (h : okP p = true) (q : Q (.str p.shown) S) (hs : (szP p).ble 16000000 = true := by rfl) (hd : p.depth.ble 50 = true := by rfl) : biD .repr1 m [d] S Q :=
  ⟨p, e, rep_ok2 h (Nat.le_of_ble_eq_true hs) (Nat.le_of_ble_eq_true hd), q⟩
theorem repr2 {S : DStore} {m : Bool} {d : D} {p : PyData} {c : Nat} {Q : QE} (e : purS S d = some p) (h : costP p = some c) (hc : c ≤ 16000000) (hd : p.depth ≤ 50) (q : Q (.str p.shown) S) : biD .repr1 m [d] S Q := ⟨p, e, rep_ok h hc hd, q⟩
def handC : List CS := [.asg (.name 2) (.ite (.ccmp .Lt (.var 1) (.bi .len false [(.var 0)])) (.ix (.var 0) (.var 1)) (.con (.int 0))),
  .asg (.name 3) (.ite (.ccmp .GtE (.bi .abs false [(.var 2)]) (.bin .Pow false (.con (.int 10)) (.con (.int 18)))) (.bin .Mod false (.bi .abs false [(.var 2)]) (.bin .Mult false (.bin .Mult false (.bin .Pow false (.con (.int 10)) (.con (.int 60))) (.bin .Pow false (.con (.int 10)) (.con (.int 60)))) (.bin .Pow false (.con (.int 10)) (.con (.int 60))))) (.con (.int 0))),
  .ret (.lst true [(.var 3), (.bin .Mod false (.bin .Add false (.bin .Add false (.bin .Mult false (.bin .Mod false (.var 2) (.con (.int 2305843009213693951))) (.con (.int 1000033))) (.bin .Mult false (.con (.int 6857)) (.var 1))) (.con (.int 41))) (.con (.int 2305843009213693921))), (.con (.int 0))])]
def spHand (ds : List D) (S : DStore) (Q : QE) : Prop := ∃ (ns : List Int) (k : Int), ds = [.scr (ns.map D.int), .int k] ∧ 0 ≤ k ∧ k ≤ 1000 ∧ ∀ g m, POk g m 0 → Q (.ref S.length) (S ++ [potC g m 0])
theorem handA {ns : List Int} {k : Int} {S : DStore} {Q : QE} (h0 : 0 ≤ k) (h1 : k ≤ 1000) (h : ∀ g m n S', POk g m 0 → S'[n]? = some (potC g m 0) → Q (.ref n) S') : spHand [.scr (ns.map D.int), .int k] S Q :=
  ⟨ns, k, rfl, h0, h1, fun g m ok => h g m _ _ ok (by simp)⟩
theorem spHand_len : ∀ ds S Q, spHand ds S Q → ds.length = 2 := by
  rintro ds S Q ⟨ns, k, rfl, _⟩; rfl
theorem hand_ok {G : Fns} : ∀ ds S Q, spHand ds S Q → wpSs G handC (startD 4 ds) S { nx := fun _ S' => Q .non S', rt := Q } := by
  rintro ds S Q ⟨ns, k, rfl, hk0, hk, hQ⟩
  unfold handC
  simp only [DL.e_var, DL.e_con, DL.e_glo, DL.e_bin, DL.e_neg, DL.e_cmp, DL.e_chain, DL.e_and, DL.e_or, DL.e_not, DL.e_ite, DL.e_tup, DL.e_lst, DL.e_ix, DL.e_sl, DL.e_call, DL.e_callK, DL.e_bi, DL.e_isi, DL.e_lc, DL.es_nil, DL.es_cons, DL.o_no, DL.o_yes, DL.b_and, DL.b_or, DL.b_not, DL.b_cmp, DL.b_chain, DL.b_val, DL.bs_nil, DL.bs_cons, DL.g_name, DL.g_tup, DL.g_sub, DL.gs_nil, DL.gs_cons, DL.i_seq, DL.i_range1, DL.i_range2, DL.i_range3, DL.i_enum, DL.i_zip, DL.s_nil, DL.s_cons, DL.s_expr, DL.s_ret, DL.s_retN, DL.s_pass, DL.s_brk, DL.s_cont, DL.s_asg, DL.s_par2, DL.s_par3, DL.s_setLc, DL.s_augA, DL.s_augS, DL.s_append, DL.s_if, DL.s_while, DL.s_for, DL.o_add, DL.o_addT, DL.o_addL, DL.o_sub, DL.o_mul, DL.o_mulL, DL.o_fdiv, DL.o_mod, DL.o_pow, DL.o_shl, DL.o_shr, DL.q_lt, DL.q_le, DL.q_gt, DL.q_ge, DL.q_eqI, DL.q_neI, DL.q_eqS, DL.q_neS, DL.q_eqB, DL.q_neB, DL.q_isN, DL.q_notN, DL.q_isB, DL.q_notB, DL.t_bl, DL.t_int, DL.x_tup, DL.x_lst, DL.x_scr, DL.x_ref, DL.c_some, DL.n_f, DL.n_t, DL.f_lenT, DL.f_lenL, DL.f_lenC, DL.f_lenR, DL.f_abs, DL.f_min, DL.f_max, DL.f_intI, DL.f_intB, DL.f_tupT, DL.f_tupL, DL.f_tupR, DL.f_lstT, DL.f_lstL, DL.y_int, DL.y_bl, DL.y_str, DL.y_non, DL.y_tup, DL.y_lst, DL.z_tup, DL.z_lst, DL.z_enum, DL.isiD, DL.t_tup, DL.t_lst, DL.a_0, DL.a_1, DL.a_2, DL.a_3, DL.a_4, DL.a_5, DL.a_6, DL.ex_some, DL.ex_env, DL.ex_int, DL.ex_bl, DL.ex_ref, DL.ex_tup, DL.ex_int2, DL.ex_sub, DL.ex_cell, DL.ix_30, DL.ix_31, DL.ix_32, DL.CC.d, DL.startD, DL.wipeD, DL.i2, List.map_cons, List.map_nil, List.length_cons, List.length_nil, List.replicate, List.cons_append, List.nil_append, List.getElem?_cons_zero, List.getElem?_cons_succ, List.set_cons_zero, List.set_cons_succ, Nat.zero_add, Nat.reduceAdd, Nat.reduceSub, decide_eq_true_eq, Bool.not_eq_true', decide_eq_false_iff_not, if_true, Bool.false_eq_true, if_false, ite_true, ite_false, List.getD_cons_zero, List.getD_cons_succ, eq_self, not_true_eq_false, not_false_eq_true, Bool.true_eq_false, Bool.not_true, Bool.not_false, List.length_map]
  have e60 : ((10 : Int) ^ (60 : Int).toNat) = 10 ^ 60 := rfl
  have p1 : CPow 10 18 := pow_ok (by decide) (by decide) (by decide)
  have p2 : CPow 10 60 := pow_ok (by decide) (by decide) (by decide)
  have m1 : MulOk ((10 : Int) ^ (60 : Int).toNat) ((10 : Int) ^ (60 : Int).toNat) := .inr (wide_mul (a := 200) (b := 200) (by decide) (by decide) (by decide) (by decide) (by decide))
  have m2 : MulOk ((10 : Int) ^ (60 : Int).toNat * (10 : Int) ^ (60 : Int).toNat) ((10 : Int) ^ (60 : Int).toNat) := .inr (wide_mul (a := 400) (b := 200) (by decide) (by decide) (by decide) (by decide) (by decide))
  have n1 : ((10 : Int) ^ (60 : Int).toNat * (10 : Int) ^ (60 : Int).toNat * (10 : Int) ^ (60 : Int).toNat) ≠ 0 := by decide
  have b1 : ((10 : Int) ^ (60 : Int).toNat * (10 : Int) ^ (60 : Int).toNat * (10 : Int) ^ (60 : Int).toNat) = 10 ^ 180 := by decide
  have fin : ∀ x y : Int, POk (x.fmod ((10 : Int) ^ (60 : Int).toNat * (10 : Int) ^ (60 : Int).toNat * (10 : Int) ^ (60 : Int).toNat)) (y.fmod 2305843009213693921) 0 := fun x y => by
    have h1 := fmod_pos (a := x) (b := 10 ^ 180) (by decide)
    have h2 := fmod_pos (a := y) (b := 2305843009213693921) (by decide)
    rw [b1]
    exact ⟨h1.1, h1.2, h2.1, Int.lt_trans h2.2 (by decide), Int.le_refl _, by decide⟩
  have fin0 : ∀ y : Int, POk 0 (y.fmod 2305843009213693921) 0 := fun y => by
    have h2 := fmod_pos (a := y) (b := 2305843009213693921) (by decide)
    exact ⟨Int.le_refl _, by decide, h2.1, Int.lt_trans h2.2 (by decide), Int.le_refl _, by decide⟩
  refine if_i (fun hlt => ?_) fun _ => ?_
  · have hi : k.toNat < ns.length := by omega
    refine ⟨.int ns[k.toNat], atI_nat' hk0 (by rw [List.getElem?_map, List.getElem?_eq_getElem hi]; rfl), ?_⟩
    simp only [DL.e_var, DL.e_con, DL.e_glo, DL.e_bin, DL.e_neg, DL.e_cmp, DL.e_chain, DL.e_and, DL.e_or, DL.e_not, DL.e_ite, DL.e_tup, DL.e_lst, DL.e_ix, DL.e_sl, DL.e_call, DL.e_callK, DL.e_bi, DL.e_isi, DL.e_lc, DL.es_nil, DL.es_cons, DL.o_no, DL.o_yes, DL.b_and, DL.b_or, DL.b_not, DL.b_cmp, DL.b_chain, DL.b_val, DL.bs_nil, DL.bs_cons, DL.g_name, DL.g_tup, DL.g_sub, DL.gs_nil, DL.gs_cons, DL.i_seq, DL.i_range1, DL.i_range2, DL.i_range3, DL.i_enum, DL.i_zip, DL.s_nil, DL.s_cons, DL.s_expr, DL.s_ret, DL.s_retN, DL.s_pass, DL.s_brk, DL.s_cont, DL.s_asg, DL.s_par2, DL.s_par3, DL.s_setLc, DL.s_augA, DL.s_augS, DL.s_append, DL.s_if, DL.s_while, DL.s_for, DL.o_add, DL.o_addT, DL.o_addL, DL.o_sub, DL.o_mul, DL.o_mulL, DL.o_fdiv, DL.o_mod, DL.o_pow, DL.o_shl, DL.o_shr, DL.q_lt, DL.q_le, DL.q_gt, DL.q_ge, DL.q_eqI, DL.q_neI, DL.q_eqS, DL.q_neS, DL.q_eqB, DL.q_neB, DL.q_isN, DL.q_notN, DL.q_isB, DL.q_notB, DL.t_bl, DL.t_int, DL.x_tup, DL.x_lst, DL.x_scr, DL.x_ref, DL.c_some, DL.n_f, DL.n_t, DL.f_lenT, DL.f_lenL, DL.f_lenC, DL.f_lenR, DL.f_abs, DL.f_min, DL.f_max, DL.f_intI, DL.f_intB, DL.f_tupT, DL.f_tupL, DL.f_tupR, DL.f_lstT, DL.f_lstL, DL.y_int, DL.y_bl, DL.y_str, DL.y_non, DL.y_tup, DL.y_lst, DL.z_tup, DL.z_lst, DL.z_enum, DL.isiD, DL.t_tup, DL.t_lst, DL.a_0, DL.a_1, DL.a_2, DL.a_3, DL.a_4, DL.a_5, DL.a_6, DL.ex_some, DL.ex_env, DL.ex_int, DL.ex_bl, DL.ex_ref, DL.ex_tup, DL.ex_int2, DL.ex_sub, DL.ex_cell, DL.ix_30, DL.ix_31, DL.ix_32, DL.CC.d, DL.startD, DL.wipeD, DL.i2, List.map_cons, List.map_nil, List.length_cons, List.length_nil, List.replicate, List.cons_append, List.nil_append, List.getElem?_cons_zero, List.getElem?_cons_succ, List.set_cons_zero, List.set_cons_succ, Nat.zero_add, Nat.reduceAdd, Nat.reduceSub, decide_eq_true_eq, Bool.not_eq_true', decide_eq_false_iff_not, if_true, Bool.false_eq_true, if_false, ite_true, ite_false, List.getD_cons_zero, List.getD_cons_succ, eq_self, not_true_eq_false, not_false_eq_true, Bool.true_eq_false, Bool.not_true, Bool.not_false]
    refine ⟨p1, if_i (fun _ => ?_) fun _ => ?_⟩
    · exact ⟨p2, p2, m1, p2, m2, n1, by decide, mul_small_right (by decide) (by decide), mul_small_left (by decide) (by decide), by decide, hQ _ _ (fin _ _)⟩
    · exact ⟨by decide, mul_small_right (by decide) (by decide), mul_small_left (by decide) (by decide), by decide, hQ _ _ (fin0 _)⟩
  · refine ⟨p1, if_i (fun _ => ?_) fun _ => ?_⟩
    · exact ⟨p2, p2, m1, p2, m2, n1, by decide, mul_small_right (by decide) (by decide), mul_small_left (by decide) (by decide), by decide, hQ _ _ (fin _ _)⟩
    · exact ⟨by decide, mul_small_right (by decide) (by decide), mul_small_left (by decide) (by decide), by decide, hQ _ _ (fin0 _)⟩
end DL

namespace DL
open PySem PySem.Spec PyProof.Rows L2
/-! ### common and made -/
theorem fmod_abs_lt {a b : Int} (h : b ≠ 0) : (a.fmod b).natAbs < b.natAbs := by
  rcases Int.lt_or_gt_of_ne h with hb | hb
  · have e : a.fmod b = -((-a).fmod (-b)) := by rw [Int.neg_fmod_neg]; omega
    have := fmod_pos (a := -a) (b := -b) (by omega)
    omega
  · have := fmod_pos (a := a) hb
    omega
theorem gcd_fmod (a b : Int) : Int.gcd b (a.fmod b) = Int.gcd a b := by
  rw [Int.fmod_def, Int.mul_comm, Int.gcd_sub_mul_right_right, Int.gcd_comm]
def commonC : List CS := [.while_ (.ccmp .NotEq (.var 1) (.con (.int 0))) [.par2 0 1 (.var 1) (.bin .Mod false (.var 0) (.var 1))],
  .ret (.bi .abs false [(.var 0)])]
def spCommon (ds : List D) (S : DStore) (Q : QE) : Prop := ∃ a b : Int, ds = [.int a, .int b] ∧ Q (.int (Int.gcd a b)) S
theorem spCommon_len : ∀ ds S Q, spCommon ds S Q → ds.length = 2 := by rintro _ _ _ ⟨_, _, rfl, _⟩; rfl
theorem abs_gcd (a : Int) : (if a < 0 then -a else a) = ((Int.gcd a 0 : Nat) : Int) := by
  rw [Int.gcd_zero_right]; split <;> omega
theorem common_ok {G : Fns} : ∀ ds S Q, spCommon ds S Q → wpSs G commonC (startD 2 ds) S { nx := fun _ S' => Q .non S', rt := Q } := by
  rintro ds S Q ⟨a, b, rfl, hQ⟩
  unfold commonC
  simp only [DL.e_var, DL.e_con, DL.e_glo, DL.e_bin, DL.e_neg, DL.e_cmp, DL.e_chain, DL.e_and, DL.e_or, DL.e_not, DL.e_ite, DL.e_tup, DL.e_lst, DL.e_ix, DL.e_sl, DL.e_call, DL.e_callK, DL.e_bi, DL.e_isi, DL.e_lc, DL.es_nil, DL.es_cons, DL.o_no, DL.o_yes, DL.b_and, DL.b_or, DL.b_not, DL.b_cmp, DL.b_chain, DL.b_val, DL.bs_nil, DL.bs_cons, DL.g_name, DL.g_tup, DL.g_sub, DL.gs_nil, DL.gs_cons, DL.i_seq, DL.i_range1, DL.i_range2, DL.i_range3, DL.i_enum, DL.i_zip, DL.s_nil, DL.s_cons, DL.s_expr, DL.s_ret, DL.s_retN, DL.s_pass, DL.s_brk, DL.s_cont, DL.s_asg, DL.s_par2, DL.s_par3, DL.s_setLc, DL.s_augA, DL.s_augS, DL.s_append, DL.s_if, DL.s_while, DL.s_for, DL.o_add, DL.o_addT, DL.o_addL, DL.o_sub, DL.o_mul, DL.o_mulL, DL.o_fdiv, DL.o_mod, DL.o_pow, DL.o_shl, DL.o_shr, DL.q_lt, DL.q_le, DL.q_gt, DL.q_ge, DL.q_eqI, DL.q_neI, DL.q_eqS, DL.q_neS, DL.q_eqB, DL.q_neB, DL.q_isN, DL.q_notN, DL.q_isB, DL.q_notB, DL.t_bl, DL.t_int, DL.x_tup, DL.x_lst, DL.x_scr, DL.x_ref, DL.c_some, DL.n_f, DL.n_t, DL.f_lenT, DL.f_lenL, DL.f_lenC, DL.f_lenR, DL.f_abs, DL.f_min, DL.f_max, DL.f_intI, DL.f_intB, DL.f_tupT, DL.f_tupL, DL.f_tupR, DL.f_lstT, DL.f_lstL, DL.y_int, DL.y_bl, DL.y_str, DL.y_non, DL.y_tup, DL.y_lst, DL.z_tup, DL.z_lst, DL.z_enum, DL.isiD, DL.t_tup, DL.t_lst, DL.a_0, DL.a_1, DL.a_2, DL.a_3, DL.a_4, DL.a_5, DL.a_6, DL.ex_some, DL.ex_env, DL.ex_int, DL.ex_bl, DL.ex_ref, DL.ex_tup, DL.ex_int2, DL.ex_sub, DL.ex_cell, DL.ix_30, DL.ix_31, DL.ix_32, DL.CC.d, DL.startD, DL.wipeD, DL.i2, List.map_cons, List.map_nil, List.length_cons, List.length_nil, List.replicate, List.cons_append, List.nil_append, List.getElem?_cons_zero, List.getElem?_cons_succ, List.set_cons_zero, List.set_cons_succ, Nat.zero_add, Nat.reduceAdd, Nat.reduceSub, decide_eq_true_eq, Bool.not_eq_true', decide_eq_false_iff_not, if_true, Bool.false_eq_true, if_false, ite_true, ite_false, List.getD_cons_zero, List.getD_cons_succ, eq_self, not_true_eq_false, not_false_eq_true, Bool.true_eq_false, Bool.not_true, Bool.not_false]
  refine ⟨fun k ρ S' => S' = S ∧ ∃ x y : Int, ρ = [some (.int x), some (.int y)] ∧ k = y.natAbs ∧ Int.gcd x y = Int.gcd a b, ⟨b.natAbs, rfl, a, b, rfl, rfl, rfl⟩, ?_⟩
  rintro k ρ S' ⟨rfl, x, y, rfl, rfl, hg⟩
  unfold whileTest DL.whileTurn
  simp only [DL.e_var, DL.e_con, DL.e_glo, DL.e_bin, DL.e_neg, DL.e_cmp, DL.e_chain, DL.e_and, DL.e_or, DL.e_not, DL.e_ite, DL.e_tup, DL.e_lst, DL.e_ix, DL.e_sl, DL.e_call, DL.e_callK, DL.e_bi, DL.e_isi, DL.e_lc, DL.es_nil, DL.es_cons, DL.o_no, DL.o_yes, DL.b_and, DL.b_or, DL.b_not, DL.b_cmp, DL.b_chain, DL.b_val, DL.bs_nil, DL.bs_cons, DL.g_name, DL.g_tup, DL.g_sub, DL.gs_nil, DL.gs_cons, DL.i_seq, DL.i_range1, DL.i_range2, DL.i_range3, DL.i_enum, DL.i_zip, DL.s_nil, DL.s_cons, DL.s_expr, DL.s_ret, DL.s_retN, DL.s_pass, DL.s_brk, DL.s_cont, DL.s_asg, DL.s_par2, DL.s_par3, DL.s_setLc, DL.s_augA, DL.s_augS, DL.s_append, DL.s_if, DL.s_while, DL.s_for, DL.o_add, DL.o_addT, DL.o_addL, DL.o_sub, DL.o_mul, DL.o_mulL, DL.o_fdiv, DL.o_mod, DL.o_pow, DL.o_shl, DL.o_shr, DL.q_lt, DL.q_le, DL.q_gt, DL.q_ge, DL.q_eqI, DL.q_neI, DL.q_eqS, DL.q_neS, DL.q_eqB, DL.q_neB, DL.q_isN, DL.q_notN, DL.q_isB, DL.q_notB, DL.t_bl, DL.t_int, DL.x_tup, DL.x_lst, DL.x_scr, DL.x_ref, DL.c_some, DL.n_f, DL.n_t, DL.f_lenT, DL.f_lenL, DL.f_lenC, DL.f_lenR, DL.f_abs, DL.f_min, DL.f_max, DL.f_intI, DL.f_intB, DL.f_tupT, DL.f_tupL, DL.f_tupR, DL.f_lstT, DL.f_lstL, DL.y_int, DL.y_bl, DL.y_str, DL.y_non, DL.y_tup, DL.y_lst, DL.z_tup, DL.z_lst, DL.z_enum, DL.isiD, DL.t_tup, DL.t_lst, DL.a_0, DL.a_1, DL.a_2, DL.a_3, DL.a_4, DL.a_5, DL.a_6, DL.ex_some, DL.ex_env, DL.ex_int, DL.ex_bl, DL.ex_ref, DL.ex_tup, DL.ex_int2, DL.ex_sub, DL.ex_cell, DL.ix_30, DL.ix_31, DL.ix_32, DL.CC.d, DL.startD, DL.wipeD, DL.i2, List.map_cons, List.map_nil, List.length_cons, List.length_nil, List.replicate, List.cons_append, List.nil_append, List.getElem?_cons_zero, List.getElem?_cons_succ, List.set_cons_zero, List.set_cons_succ, Nat.zero_add, Nat.reduceAdd, Nat.reduceSub, decide_eq_true_eq, Bool.not_eq_true', decide_eq_false_iff_not, if_true, Bool.false_eq_true, if_false, ite_true, ite_false, List.getD_cons_zero, List.getD_cons_succ, eq_self, not_true_eq_false, not_false_eq_true, Bool.true_eq_false, Bool.not_true, Bool.not_false]
  refine if_i (fun hy => ?_) fun hy => ?_
  · refine ⟨hy, _, fmod_abs_lt hy, by trivial, y, x.fmod y, rfl, rfl, ?_⟩
    rw [gcd_fmod]; exact hg
  · have hy0 : y = 0 := by
      by_cases h : y = 0
      · exact h
      · exact absurd h hy
    subst hy0
    (try simp only [DL.e_var, DL.e_con, DL.e_glo, DL.e_bin, DL.e_neg, DL.e_cmp, DL.e_chain, DL.e_and, DL.e_or, DL.e_not, DL.e_ite, DL.e_tup, DL.e_lst, DL.e_ix, DL.e_sl, DL.e_call, DL.e_callK, DL.e_bi, DL.e_isi, DL.e_lc, DL.es_nil, DL.es_cons, DL.o_no, DL.o_yes, DL.b_and, DL.b_or, DL.b_not, DL.b_cmp, DL.b_chain, DL.b_val, DL.bs_nil, DL.bs_cons, DL.g_name, DL.g_tup, DL.g_sub, DL.gs_nil, DL.gs_cons, DL.i_seq, DL.i_range1, DL.i_range2, DL.i_range3, DL.i_enum, DL.i_zip, DL.s_nil, DL.s_cons, DL.s_expr, DL.s_ret, DL.s_retN, DL.s_pass, DL.s_brk, DL.s_cont, DL.s_asg, DL.s_par2, DL.s_par3, DL.s_setLc, DL.s_augA, DL.s_augS, DL.s_append, DL.s_if, DL.s_while, DL.s_for, DL.o_add, DL.o_addT, DL.o_addL, DL.o_sub, DL.o_mul, DL.o_mulL, DL.o_fdiv, DL.o_mod, DL.o_pow, DL.o_shl, DL.o_shr, DL.q_lt, DL.q_le, DL.q_gt, DL.q_ge, DL.q_eqI, DL.q_neI, DL.q_eqS, DL.q_neS, DL.q_eqB, DL.q_neB, DL.q_isN, DL.q_notN, DL.q_isB, DL.q_notB, DL.t_bl, DL.t_int, DL.x_tup, DL.x_lst, DL.x_scr, DL.x_ref, DL.c_some, DL.n_f, DL.n_t, DL.f_lenT, DL.f_lenL, DL.f_lenC, DL.f_lenR, DL.f_abs, DL.f_min, DL.f_max, DL.f_intI, DL.f_intB, DL.f_tupT, DL.f_tupL, DL.f_tupR, DL.f_lstT, DL.f_lstL, DL.y_int, DL.y_bl, DL.y_str, DL.y_non, DL.y_tup, DL.y_lst, DL.z_tup, DL.z_lst, DL.z_enum, DL.isiD, DL.t_tup, DL.t_lst, DL.a_0, DL.a_1, DL.a_2, DL.a_3, DL.a_4, DL.a_5, DL.a_6, DL.ex_some, DL.ex_env, DL.ex_int, DL.ex_bl, DL.ex_ref, DL.ex_tup, DL.ex_int2, DL.ex_sub, DL.ex_cell, DL.ix_30, DL.ix_31, DL.ix_32, DL.CC.d, DL.startD, DL.wipeD, DL.i2, List.map_cons, List.map_nil, List.length_cons, List.length_nil, List.replicate, List.cons_append, List.nil_append, List.getElem?_cons_zero, List.getElem?_cons_succ, List.set_cons_zero, List.set_cons_succ, Nat.zero_add, Nat.reduceAdd, Nat.reduceSub, decide_eq_true_eq, Bool.not_eq_true', decide_eq_false_iff_not, if_true, Bool.false_eq_true, if_false, ite_true, ite_false, List.getD_cons_zero, List.getD_cons_succ, eq_self, not_true_eq_false, not_false_eq_true, Bool.true_eq_false, Bool.not_true, Bool.not_false])
    rw [abs_gcd, hg]
    exact hQ
def madeC (j : Nat) : List CS := [.asg (.name 2) (.call j [(.var 0), (.var 1)]),
  .if_ (.ccmp .Lt (.var 1) (.con (.int 0))) [.asg (.name 2) (.neg (.var 2))] [],
  .ret (.tup [(.bin .FloorDiv false (.var 0) (.var 2)), (.bin .FloorDiv false (.var 1) (.var 2))])]
/-- the fraction of n by d, d above 0 -/
def spMade (ds : List D) (S : DStore) (Q : QE) : Prop := ∃ n d : Int, ds = [.int n, .int d] ∧ 0 < d ∧ d < 2 ^ 8000 ∧ Q (.tup [.int (n / (Int.gcd n d : Nat)), .int (d / (Int.gcd n d : Nat))]) S
theorem spMade_len : ∀ ds S Q, spMade ds S Q → ds.length = 2 := by rintro _ _ _ ⟨_, _, rfl, _⟩; rfl
theorem gcd_pos' {n d : Int} (h : 0 < d) : 0 < Int.gcd n d := Nat.pos_of_ne_zero fun z => by
  have := (Int.gcd_eq_zero_iff.mp z).2
  omega
theorem gcd_le' {n d : Int} (h : 0 < d) : ((Int.gcd n d : Nat) : Int) ≤ d := Int.le_of_dvd h (Int.gcd_dvd_right n d)
theorem pow_lt_9000 {x : Nat} {k : Nat} (h : x < 2 ^ k) (hk : k ≤ 9000) : x < 2 ^ 9000 := Nat.lt_of_lt_of_le h (Nat.pow_le_pow_right (by decide) hk)
theorem div_ok8 {j : Int} (h0 : 0 < j) (h : j < 2 ^ 8000) : DivOk j := div_small (by omega) (pow_lt_9000 (k := 8000) (by
  have : (j.natAbs : Int) < ((2 ^ 8000 : Nat) : Int) := by
    rw [Int.natAbs_of_nonneg (by omega)]
    exact_mod_cast h
  exact_mod_cast this) (by decide))
theorem made_ok {G : Fns} {j : Nat} (hG : G.fn j = spCommon) : ∀ ds S Q, spMade ds S Q → wpSs G (madeC j) (startD 3 ds) S { nx := fun _ S' => Q .non S', rt := Q } := by
  rintro ds S Q ⟨n, d, rfl, h0, hb, hQ⟩
  unfold madeC
  simp only [DL.e_var, DL.e_con, DL.e_glo, DL.e_bin, DL.e_neg, DL.e_cmp, DL.e_chain, DL.e_and, DL.e_or, DL.e_not, DL.e_ite, DL.e_tup, DL.e_lst, DL.e_ix, DL.e_sl, DL.e_call, DL.e_callK, DL.e_bi, DL.e_isi, DL.e_lc, DL.es_nil, DL.es_cons, DL.o_no, DL.o_yes, DL.b_and, DL.b_or, DL.b_not, DL.b_cmp, DL.b_chain, DL.b_val, DL.bs_nil, DL.bs_cons, DL.g_name, DL.g_tup, DL.g_sub, DL.gs_nil, DL.gs_cons, DL.i_seq, DL.i_range1, DL.i_range2, DL.i_range3, DL.i_enum, DL.i_zip, DL.s_nil, DL.s_cons, DL.s_expr, DL.s_ret, DL.s_retN, DL.s_pass, DL.s_brk, DL.s_cont, DL.s_asg, DL.s_par2, DL.s_par3, DL.s_setLc, DL.s_augA, DL.s_augS, DL.s_append, DL.s_if, DL.s_while, DL.s_for, DL.o_add, DL.o_addT, DL.o_addL, DL.o_sub, DL.o_mul, DL.o_mulL, DL.o_fdiv, DL.o_mod, DL.o_pow, DL.o_shl, DL.o_shr, DL.q_lt, DL.q_le, DL.q_gt, DL.q_ge, DL.q_eqI, DL.q_neI, DL.q_eqS, DL.q_neS, DL.q_eqB, DL.q_neB, DL.q_isN, DL.q_notN, DL.q_isB, DL.q_notB, DL.t_bl, DL.t_int, DL.x_tup, DL.x_lst, DL.x_scr, DL.x_ref, DL.c_some, DL.n_f, DL.n_t, DL.f_lenT, DL.f_lenL, DL.f_lenC, DL.f_lenR, DL.f_abs, DL.f_min, DL.f_max, DL.f_intI, DL.f_intB, DL.f_tupT, DL.f_tupL, DL.f_tupR, DL.f_lstT, DL.f_lstL, DL.y_int, DL.y_bl, DL.y_str, DL.y_non, DL.y_tup, DL.y_lst, DL.z_tup, DL.z_lst, DL.z_enum, DL.isiD, DL.t_tup, DL.t_lst, DL.a_0, DL.a_1, DL.a_2, DL.a_3, DL.a_4, DL.a_5, DL.a_6, DL.ex_some, DL.ex_env, DL.ex_int, DL.ex_bl, DL.ex_ref, DL.ex_tup, DL.ex_int2, DL.ex_sub, DL.ex_cell, DL.ix_30, DL.ix_31, DL.ix_32, DL.CC.d, DL.startD, DL.wipeD, DL.i2, List.map_cons, List.map_nil, List.length_cons, List.length_nil, List.replicate, List.cons_append, List.nil_append, List.getElem?_cons_zero, List.getElem?_cons_succ, List.set_cons_zero, List.set_cons_succ, Nat.zero_add, Nat.reduceAdd, Nat.reduceSub, decide_eq_true_eq, Bool.not_eq_true', decide_eq_false_iff_not, if_true, Bool.false_eq_true, if_false, ite_true, ite_false, List.getD_cons_zero, List.getD_cons_succ, eq_self, not_true_eq_false, not_false_eq_true, Bool.true_eq_false, Bool.not_true, Bool.not_false, hG]
  refine ⟨n, d, rfl, ?_⟩
  have hp := gcd_pos' (n := n) h0
  have hl := gcd_le' (n := n) h0
  simp only [DL.e_var, DL.e_con, DL.e_glo, DL.e_bin, DL.e_neg, DL.e_cmp, DL.e_chain, DL.e_and, DL.e_or, DL.e_not, DL.e_ite, DL.e_tup, DL.e_lst, DL.e_ix, DL.e_sl, DL.e_call, DL.e_callK, DL.e_bi, DL.e_isi, DL.e_lc, DL.es_nil, DL.es_cons, DL.o_no, DL.o_yes, DL.b_and, DL.b_or, DL.b_not, DL.b_cmp, DL.b_chain, DL.b_val, DL.bs_nil, DL.bs_cons, DL.g_name, DL.g_tup, DL.g_sub, DL.gs_nil, DL.gs_cons, DL.i_seq, DL.i_range1, DL.i_range2, DL.i_range3, DL.i_enum, DL.i_zip, DL.s_nil, DL.s_cons, DL.s_expr, DL.s_ret, DL.s_retN, DL.s_pass, DL.s_brk, DL.s_cont, DL.s_asg, DL.s_par2, DL.s_par3, DL.s_setLc, DL.s_augA, DL.s_augS, DL.s_append, DL.s_if, DL.s_while, DL.s_for, DL.o_add, DL.o_addT, DL.o_addL, DL.o_sub, DL.o_mul, DL.o_mulL, DL.o_fdiv, DL.o_mod, DL.o_pow, DL.o_shl, DL.o_shr, DL.q_lt, DL.q_le, DL.q_gt, DL.q_ge, DL.q_eqI, DL.q_neI, DL.q_eqS, DL.q_neS, DL.q_eqB, DL.q_neB, DL.q_isN, DL.q_notN, DL.q_isB, DL.q_notB, DL.t_bl, DL.t_int, DL.x_tup, DL.x_lst, DL.x_scr, DL.x_ref, DL.c_some, DL.n_f, DL.n_t, DL.f_lenT, DL.f_lenL, DL.f_lenC, DL.f_lenR, DL.f_abs, DL.f_min, DL.f_max, DL.f_intI, DL.f_intB, DL.f_tupT, DL.f_tupL, DL.f_tupR, DL.f_lstT, DL.f_lstL, DL.y_int, DL.y_bl, DL.y_str, DL.y_non, DL.y_tup, DL.y_lst, DL.z_tup, DL.z_lst, DL.z_enum, DL.isiD, DL.t_tup, DL.t_lst, DL.a_0, DL.a_1, DL.a_2, DL.a_3, DL.a_4, DL.a_5, DL.a_6, DL.ex_some, DL.ex_env, DL.ex_int, DL.ex_bl, DL.ex_ref, DL.ex_tup, DL.ex_int2, DL.ex_sub, DL.ex_cell, DL.ix_30, DL.ix_31, DL.ix_32, DL.CC.d, DL.startD, DL.wipeD, DL.i2, List.map_cons, List.map_nil, List.length_cons, List.length_nil, List.replicate, List.cons_append, List.nil_append, List.getElem?_cons_zero, List.getElem?_cons_succ, List.set_cons_zero, List.set_cons_succ, Nat.zero_add, Nat.reduceAdd, Nat.reduceSub, decide_eq_true_eq, Bool.not_eq_true', decide_eq_false_iff_not, if_true, Bool.false_eq_true, if_false, ite_true, ite_false, List.getD_cons_zero, List.getD_cons_succ, eq_self, not_true_eq_false, not_false_eq_true, Bool.true_eq_false, Bool.not_true, Bool.not_false]
  rw [if_neg (by omega)]
  have hd : DivOk ((Int.gcd n d : Nat) : Int) := div_ok8 (by omega) (Int.lt_of_le_of_lt hl hb)
  refine ⟨hd, hd, ?_⟩
  rw [Int.fdiv_eq_ediv_of_nonneg _ (by omega), Int.fdiv_eq_ediv_of_nonneg _ (by omega)]
  exact hQ
/-! ### bounds of products -/
theorem mul_bd {a b A B : Int} (h1 : -A ≤ a) (h2 : a ≤ A) (h3 : -B ≤ b) (h4 : b ≤ B) : -(A * B) ≤ a * b ∧ a * b ≤ A * B := by
  have hA : 0 ≤ A := by omega
  have hB : 0 ≤ B := by omega
  have h5 : a.natAbs * b.natAbs ≤ A.natAbs * B.natAbs := Nat.mul_le_mul (by omega) (by omega)
  rw [← Int.natAbs_mul, ← Int.natAbs_mul] at h5
  have h6 : 0 ≤ A * B := Int.mul_nonneg hA hB
  omega
end DL

namespace DL
open PySem PySem.Spec PyProof.Rows L2
/-! ### the hand: parted, numbers, pushed, brought_in, wrapped -/
def hndD (a b f bits : Int) : D := .tup [.int a, .int b, .int f, .int bits]
def wshD (X V P : Int) : D := .tup [.int X, .int V, .int P]
def pw2 (f : Int) : Int := 2 ^ f.toNat
def smH (a b X V y y0 : Int) : Int := a * (y - X) + b * (y - y0 - V)
structure HOk (a b f bits : Int) : Prop where
  a1 : -1000000 ≤ a
  a2 : a ≤ 1000000
  b1 : -1000000 ≤ b
  b2 : b ≤ 1000000
  f1 : 0 ≤ f
  f2 : f ≤ 8
  k1 : 4 ≤ bits
  k2 : bits ≤ 40
def partedC : List CS := [.asg (.tup [(.name 4), (.name 5), (.name 6), (.name 7)]) (.var 0),
  .asg (.tup [(.name 8), (.name 9), (.name 10)]) (.var 1),
  .par2 11 12 (.bin .Sub false (.var 2) (.var 8)) (.bin .Sub false (.bin .Sub false (.var 2) (.var 3)) (.var 9)),
  .ret (.tup [(.var 11), (.var 12), (.bin .Mult false (.var 4) (.var 11)), (.bin .Mult false (.var 5) (.var 12)), (.bin .Add false (.bin .Mult false (.var 4) (.var 11)) (.bin .Mult false (.var 5) (.var 12)))])]
def numbersC (j : Nat) : List CS := [.asg (.name 4) (.call j [(.var 0), (.var 1), (.var 2), (.var 3)]),
  .asg (.name 5) (.bin .RShift false (.ix (.var 4) (.con (.int 4))) (.ix (.var 0) (.con (.int 2)))),
  .ret (.bin .Add false (.var 4) (.tup [(.var 5), (.bin .Sub false (.ix (.var 1) (.con (.int 2))) (.var 5))]))]
def pushedC (j : Nat) : List CS := [.ret (.ix (.call j [(.var 0), (.var 1), (.var 2), (.var 3)]) (.con (.int 6)))]
def broughtC : List CS := [.asg (.name 2) (.bin .LShift false (.con (.int 1)) (.bin .Sub false (.ix (.var 0) (.con (.int 3))) (.con (.int 1)))),
  .ret (.bin .Sub false (.bin .Mod false (.bin .Add false (.var 1) (.var 2)) (.bin .Mult false (.con (.int 2)) (.var 2))) (.var 2))]
def bro (bits x : Int) : Int := (x + pw2 (bits - 1)) % (2 * pw2 (bits - 1)) - pw2 (bits - 1)
def numsD (a b f X V P y y0 : Int) : List Int := [y - X, y - y0 - V, a * (y - X), b * (y - y0 - V), smH a b X V y y0, smH a b X V y y0 / pw2 f, P - smH a b X V y y0 / pw2 f]
def wrp (a b f bits X V P y y0 : Int) : Int := bro bits (P - bro bits (bro bits (bro bits (a * bro bits (y - X)) + bro bits (b * bro bits (y - y0 - V))) / pw2 f))
def spHd (R : (a b f bits X V P y y0 : Int) → D) (ds : List D) (S : DStore) (Q : QE) : Prop := ∃ a b f bits X V P y y0, ds = [hndD a b f bits, wshD X V P, .int y, .int y0] ∧ HOk a b f bits ∧ Q (R a b f bits X V P y y0) S
theorem spHd_len {R} : ∀ ds S Q, spHd R ds S Q → ds.length = 4 := by rintro _ _ _ ⟨_, _, _, _, _, _, _, _, _, rfl, _⟩; rfl
def spParted := spHd fun a b f bits X V P y y0 => .tup [.int (y - X), .int (y - y0 - V), .int (a * (y - X)), .int (b * (y - y0 - V)), .int (smH a b X V y y0)]
def spNumbers := spHd fun a b f bits X V P y y0 => .tup ((numsD a b f X V P y y0).map D.int)
def spPushed := spHd fun a b f bits X V P y y0 => .int (P - smH a b X V y y0 / pw2 f)
def spWrapped := spHd fun a b f bits X V P y y0 => .int (wrp a b f bits X V P y y0)
def spBrought (ds : List D) (S : DStore) (Q : QE) : Prop := ∃ a b f bits x, ds = [hndD a b f bits, .int x] ∧ 4 ≤ bits ∧ bits ≤ 40 ∧ Q (.int (bro bits x)) S
theorem spBrought_len : ∀ ds S Q, spBrought ds S Q → ds.length = 2 := by rintro _ _ _ ⟨_, _, _, _, _, rfl, _⟩; rfl
theorem pw2_pos (f : Int) : 1 ≤ pw2 f := by
  unfold pw2
  exact_mod_cast Nat.one_le_two_pow (n := f.toNat)
theorem pw2_le {f : Int} {k : Nat} (h : f ≤ k) : pw2 f ≤ 2 ^ k := by
  unfold pw2
  have : (2 : Nat) ^ f.toNat ≤ 2 ^ k := Nat.pow_le_pow_right (by decide) (by omega)
  exact_mod_cast this
theorem pw2_one (f : Int) : (1 : Int) * 2 ^ f.toNat = pw2 f := by unfold pw2; omega
theorem cpow1 {f : Int} (h0 : 0 ≤ f) (h1 : f ≤ 1000000) : CPow 1 f := pow_ok h0 h1 (by decide)
theorem parted_ok {G : Fns} : ∀ ds S Q, spParted ds S Q → wpSs G partedC (startD 13 ds) S { nx := fun _ S' => Q .non S', rt := Q } := by
  rintro ds S Q ⟨a, b, f, bits, X, V, P, y, y0, rfl, h, hQ⟩
  have := h.a1; have := h.a2; have := h.b1; have := h.b2
  unfold partedC hndD wshD
  simp only [DL.e_var, DL.e_con, DL.e_glo, DL.e_bin, DL.e_neg, DL.e_cmp, DL.e_chain, DL.e_and, DL.e_or, DL.e_not, DL.e_ite, DL.e_tup, DL.e_lst, DL.e_ix, DL.e_sl, DL.e_call, DL.e_callK, DL.e_bi, DL.e_isi, DL.e_lc, DL.es_nil, DL.es_cons, DL.o_no, DL.o_yes, DL.b_and, DL.b_or, DL.b_not, DL.b_cmp, DL.b_chain, DL.b_val, DL.bs_nil, DL.bs_cons, DL.g_name, DL.g_tup, DL.g_sub, DL.gs_nil, DL.gs_cons, DL.i_seq, DL.i_range1, DL.i_range2, DL.i_range3, DL.i_enum, DL.i_zip, DL.s_nil, DL.s_cons, DL.s_expr, DL.s_ret, DL.s_retN, DL.s_pass, DL.s_brk, DL.s_cont, DL.s_asg, DL.s_par2, DL.s_par3, DL.s_setLc, DL.s_augA, DL.s_augS, DL.s_append, DL.s_if, DL.s_while, DL.s_for, DL.o_add, DL.o_addT, DL.o_addL, DL.o_sub, DL.o_mul, DL.o_mulL, DL.o_fdiv, DL.o_mod, DL.o_pow, DL.o_shl, DL.o_shr, DL.q_lt, DL.q_le, DL.q_gt, DL.q_ge, DL.q_eqI, DL.q_neI, DL.q_eqS, DL.q_neS, DL.q_eqB, DL.q_neB, DL.q_isN, DL.q_notN, DL.q_isB, DL.q_notB, DL.t_bl, DL.t_int, DL.x_tup, DL.x_lst, DL.x_scr, DL.x_ref, DL.c_some, DL.n_f, DL.n_t, DL.f_lenT, DL.f_lenL, DL.f_lenC, DL.f_lenR, DL.f_abs, DL.f_min, DL.f_max, DL.f_intI, DL.f_intB, DL.f_tupT, DL.f_tupL, DL.f_tupR, DL.f_lstT, DL.f_lstL, DL.y_int, DL.y_bl, DL.y_str, DL.y_non, DL.y_tup, DL.y_lst, DL.z_tup, DL.z_lst, DL.z_enum, DL.isiD, DL.t_tup, DL.t_lst, DL.a_0, DL.a_1, DL.a_2, DL.a_3, DL.a_4, DL.a_5, DL.a_6, DL.ex_some, DL.ex_env, DL.ex_int, DL.ex_bl, DL.ex_ref, DL.ex_tup, DL.ex_int2, DL.ex_sub, DL.ex_cell, DL.ix_30, DL.ix_31, DL.ix_32, DL.CC.d, DL.startD, DL.wipeD, DL.i2, List.map_cons, List.map_nil, List.length_cons, List.length_nil, List.replicate, List.cons_append, List.nil_append, List.getElem?_cons_zero, List.getElem?_cons_succ, List.set_cons_zero, List.set_cons_succ, Nat.zero_add, Nat.reduceAdd, Nat.reduceSub, decide_eq_true_eq, Bool.not_eq_true', decide_eq_false_iff_not, if_true, Bool.false_eq_true, if_false, ite_true, ite_false, List.getD_cons_zero, List.getD_cons_succ, eq_self, not_true_eq_false, not_false_eq_true, Bool.true_eq_false, Bool.not_true, Bool.not_false]
  have ma : ∀ z, MulOk a z := fun z => mul_small_left (by omega) (by omega)
  have mb : ∀ z, MulOk b z := fun z => mul_small_left (by omega) (by omega)
  exact ⟨by trivial, by trivial, ma _, mb _, ma _, mb _, hQ⟩
theorem numbers_ok {G : Fns} {j : Nat} (hG : G.fn j = spParted) : ∀ ds S Q, spNumbers ds S Q → wpSs G (numbersC j) (startD 6 ds) S { nx := fun _ S' => Q .non S', rt := Q } := by
  rintro ds S Q ⟨a, b, f, bits, X, V, P, y, y0, rfl, h, hQ⟩
  unfold numbersC
  simp only [DL.e_var, DL.e_con, DL.e_glo, DL.e_bin, DL.e_neg, DL.e_cmp, DL.e_chain, DL.e_and, DL.e_or, DL.e_not, DL.e_ite, DL.e_tup, DL.e_lst, DL.e_ix, DL.e_sl, DL.e_call, DL.e_callK, DL.e_bi, DL.e_isi, DL.e_lc, DL.es_nil, DL.es_cons, DL.o_no, DL.o_yes, DL.b_and, DL.b_or, DL.b_not, DL.b_cmp, DL.b_chain, DL.b_val, DL.bs_nil, DL.bs_cons, DL.g_name, DL.g_tup, DL.g_sub, DL.gs_nil, DL.gs_cons, DL.i_seq, DL.i_range1, DL.i_range2, DL.i_range3, DL.i_enum, DL.i_zip, DL.s_nil, DL.s_cons, DL.s_expr, DL.s_ret, DL.s_retN, DL.s_pass, DL.s_brk, DL.s_cont, DL.s_asg, DL.s_par2, DL.s_par3, DL.s_setLc, DL.s_augA, DL.s_augS, DL.s_append, DL.s_if, DL.s_while, DL.s_for, DL.o_add, DL.o_addT, DL.o_addL, DL.o_sub, DL.o_mul, DL.o_mulL, DL.o_fdiv, DL.o_mod, DL.o_pow, DL.o_shl, DL.o_shr, DL.q_lt, DL.q_le, DL.q_gt, DL.q_ge, DL.q_eqI, DL.q_neI, DL.q_eqS, DL.q_neS, DL.q_eqB, DL.q_neB, DL.q_isN, DL.q_notN, DL.q_isB, DL.q_notB, DL.t_bl, DL.t_int, DL.x_tup, DL.x_lst, DL.x_scr, DL.x_ref, DL.c_some, DL.n_f, DL.n_t, DL.f_lenT, DL.f_lenL, DL.f_lenC, DL.f_lenR, DL.f_abs, DL.f_min, DL.f_max, DL.f_intI, DL.f_intB, DL.f_tupT, DL.f_tupL, DL.f_tupR, DL.f_lstT, DL.f_lstL, DL.y_int, DL.y_bl, DL.y_str, DL.y_non, DL.y_tup, DL.y_lst, DL.z_tup, DL.z_lst, DL.z_enum, DL.isiD, DL.t_tup, DL.t_lst, DL.a_0, DL.a_1, DL.a_2, DL.a_3, DL.a_4, DL.a_5, DL.a_6, DL.ex_some, DL.ex_env, DL.ex_int, DL.ex_bl, DL.ex_ref, DL.ex_tup, DL.ex_int2, DL.ex_sub, DL.ex_cell, DL.ix_30, DL.ix_31, DL.ix_32, DL.CC.d, DL.startD, DL.wipeD, DL.i2, List.map_cons, List.map_nil, List.length_cons, List.length_nil, List.replicate, List.cons_append, List.nil_append, List.getElem?_cons_zero, List.getElem?_cons_succ, List.set_cons_zero, List.set_cons_succ, Nat.zero_add, Nat.reduceAdd, Nat.reduceSub, decide_eq_true_eq, Bool.not_eq_true', decide_eq_false_iff_not, if_true, Bool.false_eq_true, if_false, ite_true, ite_false, List.getD_cons_zero, List.getD_cons_succ, eq_self, not_true_eq_false, not_false_eq_true, Bool.true_eq_false, Bool.not_true, Bool.not_false, hG]
  refine ⟨a, b, f, bits, X, V, P, y, y0, rfl, h, ?_⟩
  unfold hndD wshD
  simp only [DL.e_var, DL.e_con, DL.e_glo, DL.e_bin, DL.e_neg, DL.e_cmp, DL.e_chain, DL.e_and, DL.e_or, DL.e_not, DL.e_ite, DL.e_tup, DL.e_lst, DL.e_ix, DL.e_sl, DL.e_call, DL.e_callK, DL.e_bi, DL.e_isi, DL.e_lc, DL.es_nil, DL.es_cons, DL.o_no, DL.o_yes, DL.b_and, DL.b_or, DL.b_not, DL.b_cmp, DL.b_chain, DL.b_val, DL.bs_nil, DL.bs_cons, DL.g_name, DL.g_tup, DL.g_sub, DL.gs_nil, DL.gs_cons, DL.i_seq, DL.i_range1, DL.i_range2, DL.i_range3, DL.i_enum, DL.i_zip, DL.s_nil, DL.s_cons, DL.s_expr, DL.s_ret, DL.s_retN, DL.s_pass, DL.s_brk, DL.s_cont, DL.s_asg, DL.s_par2, DL.s_par3, DL.s_setLc, DL.s_augA, DL.s_augS, DL.s_append, DL.s_if, DL.s_while, DL.s_for, DL.o_add, DL.o_addT, DL.o_addL, DL.o_sub, DL.o_mul, DL.o_mulL, DL.o_fdiv, DL.o_mod, DL.o_pow, DL.o_shl, DL.o_shr, DL.q_lt, DL.q_le, DL.q_gt, DL.q_ge, DL.q_eqI, DL.q_neI, DL.q_eqS, DL.q_neS, DL.q_eqB, DL.q_neB, DL.q_isN, DL.q_notN, DL.q_isB, DL.q_notB, DL.t_bl, DL.t_int, DL.x_tup, DL.x_lst, DL.x_scr, DL.x_ref, DL.c_some, DL.n_f, DL.n_t, DL.f_lenT, DL.f_lenL, DL.f_lenC, DL.f_lenR, DL.f_abs, DL.f_min, DL.f_max, DL.f_intI, DL.f_intB, DL.f_tupT, DL.f_tupL, DL.f_tupR, DL.f_lstT, DL.f_lstL, DL.y_int, DL.y_bl, DL.y_str, DL.y_non, DL.y_tup, DL.y_lst, DL.z_tup, DL.z_lst, DL.z_enum, DL.isiD, DL.t_tup, DL.t_lst, DL.a_0, DL.a_1, DL.a_2, DL.a_3, DL.a_4, DL.a_5, DL.a_6, DL.ex_some, DL.ex_env, DL.ex_int, DL.ex_bl, DL.ex_ref, DL.ex_tup, DL.ex_int2, DL.ex_sub, DL.ex_cell, DL.ix_30, DL.ix_31, DL.ix_32, DL.CC.d, DL.startD, DL.wipeD, DL.i2, List.map_cons, List.map_nil, List.length_cons, List.length_nil, List.replicate, List.cons_append, List.nil_append, List.getElem?_cons_zero, List.getElem?_cons_succ, List.set_cons_zero, List.set_cons_succ, Nat.zero_add, Nat.reduceAdd, Nat.reduceSub, decide_eq_true_eq, Bool.not_eq_true', decide_eq_false_iff_not, if_true, Bool.false_eq_true, if_false, ite_true, ite_false, List.getD_cons_zero, List.getD_cons_succ, eq_self, not_true_eq_false, not_false_eq_true, Bool.true_eq_false, Bool.not_true, Bool.not_false]
  exact ⟨h.f1, by decide, hQ⟩
theorem pushed_ok {G : Fns} {j : Nat} (hG : G.fn j = spNumbers) : ∀ ds S Q, spPushed ds S Q → wpSs G (pushedC j) (startD 4 ds) S { nx := fun _ S' => Q .non S', rt := Q } := by
  rintro ds S Q ⟨a, b, f, bits, X, V, P, y, y0, rfl, h, hQ⟩
  unfold pushedC
  simp only [DL.e_var, DL.e_con, DL.e_glo, DL.e_bin, DL.e_neg, DL.e_cmp, DL.e_chain, DL.e_and, DL.e_or, DL.e_not, DL.e_ite, DL.e_tup, DL.e_lst, DL.e_ix, DL.e_sl, DL.e_call, DL.e_callK, DL.e_bi, DL.e_isi, DL.e_lc, DL.es_nil, DL.es_cons, DL.o_no, DL.o_yes, DL.b_and, DL.b_or, DL.b_not, DL.b_cmp, DL.b_chain, DL.b_val, DL.bs_nil, DL.bs_cons, DL.g_name, DL.g_tup, DL.g_sub, DL.gs_nil, DL.gs_cons, DL.i_seq, DL.i_range1, DL.i_range2, DL.i_range3, DL.i_enum, DL.i_zip, DL.s_nil, DL.s_cons, DL.s_expr, DL.s_ret, DL.s_retN, DL.s_pass, DL.s_brk, DL.s_cont, DL.s_asg, DL.s_par2, DL.s_par3, DL.s_setLc, DL.s_augA, DL.s_augS, DL.s_append, DL.s_if, DL.s_while, DL.s_for, DL.o_add, DL.o_addT, DL.o_addL, DL.o_sub, DL.o_mul, DL.o_mulL, DL.o_fdiv, DL.o_mod, DL.o_pow, DL.o_shl, DL.o_shr, DL.q_lt, DL.q_le, DL.q_gt, DL.q_ge, DL.q_eqI, DL.q_neI, DL.q_eqS, DL.q_neS, DL.q_eqB, DL.q_neB, DL.q_isN, DL.q_notN, DL.q_isB, DL.q_notB, DL.t_bl, DL.t_int, DL.x_tup, DL.x_lst, DL.x_scr, DL.x_ref, DL.c_some, DL.n_f, DL.n_t, DL.f_lenT, DL.f_lenL, DL.f_lenC, DL.f_lenR, DL.f_abs, DL.f_min, DL.f_max, DL.f_intI, DL.f_intB, DL.f_tupT, DL.f_tupL, DL.f_tupR, DL.f_lstT, DL.f_lstL, DL.y_int, DL.y_bl, DL.y_str, DL.y_non, DL.y_tup, DL.y_lst, DL.z_tup, DL.z_lst, DL.z_enum, DL.isiD, DL.t_tup, DL.t_lst, DL.a_0, DL.a_1, DL.a_2, DL.a_3, DL.a_4, DL.a_5, DL.a_6, DL.ex_some, DL.ex_env, DL.ex_int, DL.ex_bl, DL.ex_ref, DL.ex_tup, DL.ex_int2, DL.ex_sub, DL.ex_cell, DL.ix_30, DL.ix_31, DL.ix_32, DL.CC.d, DL.startD, DL.wipeD, DL.i2, List.map_cons, List.map_nil, List.length_cons, List.length_nil, List.replicate, List.cons_append, List.nil_append, List.getElem?_cons_zero, List.getElem?_cons_succ, List.set_cons_zero, List.set_cons_succ, Nat.zero_add, Nat.reduceAdd, Nat.reduceSub, decide_eq_true_eq, Bool.not_eq_true', decide_eq_false_iff_not, if_true, Bool.false_eq_true, if_false, ite_true, ite_false, List.getD_cons_zero, List.getD_cons_succ, eq_self, not_true_eq_false, not_false_eq_true, Bool.true_eq_false, Bool.not_true, Bool.not_false, hG]
  refine ⟨a, b, f, bits, X, V, P, y, y0, rfl, h, ?_⟩
  unfold numsD
  simp only [DL.e_var, DL.e_con, DL.e_glo, DL.e_bin, DL.e_neg, DL.e_cmp, DL.e_chain, DL.e_and, DL.e_or, DL.e_not, DL.e_ite, DL.e_tup, DL.e_lst, DL.e_ix, DL.e_sl, DL.e_call, DL.e_callK, DL.e_bi, DL.e_isi, DL.e_lc, DL.es_nil, DL.es_cons, DL.o_no, DL.o_yes, DL.b_and, DL.b_or, DL.b_not, DL.b_cmp, DL.b_chain, DL.b_val, DL.bs_nil, DL.bs_cons, DL.g_name, DL.g_tup, DL.g_sub, DL.gs_nil, DL.gs_cons, DL.i_seq, DL.i_range1, DL.i_range2, DL.i_range3, DL.i_enum, DL.i_zip, DL.s_nil, DL.s_cons, DL.s_expr, DL.s_ret, DL.s_retN, DL.s_pass, DL.s_brk, DL.s_cont, DL.s_asg, DL.s_par2, DL.s_par3, DL.s_setLc, DL.s_augA, DL.s_augS, DL.s_append, DL.s_if, DL.s_while, DL.s_for, DL.o_add, DL.o_addT, DL.o_addL, DL.o_sub, DL.o_mul, DL.o_mulL, DL.o_fdiv, DL.o_mod, DL.o_pow, DL.o_shl, DL.o_shr, DL.q_lt, DL.q_le, DL.q_gt, DL.q_ge, DL.q_eqI, DL.q_neI, DL.q_eqS, DL.q_neS, DL.q_eqB, DL.q_neB, DL.q_isN, DL.q_notN, DL.q_isB, DL.q_notB, DL.t_bl, DL.t_int, DL.x_tup, DL.x_lst, DL.x_scr, DL.x_ref, DL.c_some, DL.n_f, DL.n_t, DL.f_lenT, DL.f_lenL, DL.f_lenC, DL.f_lenR, DL.f_abs, DL.f_min, DL.f_max, DL.f_intI, DL.f_intB, DL.f_tupT, DL.f_tupL, DL.f_tupR, DL.f_lstT, DL.f_lstL, DL.y_int, DL.y_bl, DL.y_str, DL.y_non, DL.y_tup, DL.y_lst, DL.z_tup, DL.z_lst, DL.z_enum, DL.isiD, DL.t_tup, DL.t_lst, DL.a_0, DL.a_1, DL.a_2, DL.a_3, DL.a_4, DL.a_5, DL.a_6, DL.ex_some, DL.ex_env, DL.ex_int, DL.ex_bl, DL.ex_ref, DL.ex_tup, DL.ex_int2, DL.ex_sub, DL.ex_cell, DL.ix_30, DL.ix_31, DL.ix_32, DL.CC.d, DL.startD, DL.wipeD, DL.i2, List.map_cons, List.map_nil, List.length_cons, List.length_nil, List.replicate, List.cons_append, List.nil_append, List.getElem?_cons_zero, List.getElem?_cons_succ, List.set_cons_zero, List.set_cons_succ, Nat.zero_add, Nat.reduceAdd, Nat.reduceSub, decide_eq_true_eq, Bool.not_eq_true', decide_eq_false_iff_not, if_true, Bool.false_eq_true, if_false, ite_true, ite_false, List.getD_cons_zero, List.getD_cons_succ, eq_self, not_true_eq_false, not_false_eq_true, Bool.true_eq_false, Bool.not_true, Bool.not_false]
  exact hQ
theorem brought_ok {G : Fns} : ∀ ds S Q, spBrought ds S Q → wpSs G broughtC (startD 3 ds) S { nx := fun _ S' => Q .non S', rt := Q } := by
  rintro ds S Q ⟨a, b, f, bits, x, rfl, h1, h2, hQ⟩
  unfold broughtC hndD
  have hp := pw2_pos (bits - 1)
  simp only [DL.e_var, DL.e_con, DL.e_glo, DL.e_bin, DL.e_neg, DL.e_cmp, DL.e_chain, DL.e_and, DL.e_or, DL.e_not, DL.e_ite, DL.e_tup, DL.e_lst, DL.e_ix, DL.e_sl, DL.e_call, DL.e_callK, DL.e_bi, DL.e_isi, DL.e_lc, DL.es_nil, DL.es_cons, DL.o_no, DL.o_yes, DL.b_and, DL.b_or, DL.b_not, DL.b_cmp, DL.b_chain, DL.b_val, DL.bs_nil, DL.bs_cons, DL.g_name, DL.g_tup, DL.g_sub, DL.gs_nil, DL.gs_cons, DL.i_seq, DL.i_range1, DL.i_range2, DL.i_range3, DL.i_enum, DL.i_zip, DL.s_nil, DL.s_cons, DL.s_expr, DL.s_ret, DL.s_retN, DL.s_pass, DL.s_brk, DL.s_cont, DL.s_asg, DL.s_par2, DL.s_par3, DL.s_setLc, DL.s_augA, DL.s_augS, DL.s_append, DL.s_if, DL.s_while, DL.s_for, DL.o_add, DL.o_addT, DL.o_addL, DL.o_sub, DL.o_mul, DL.o_mulL, DL.o_fdiv, DL.o_mod, DL.o_pow, DL.o_shl, DL.o_shr, DL.q_lt, DL.q_le, DL.q_gt, DL.q_ge, DL.q_eqI, DL.q_neI, DL.q_eqS, DL.q_neS, DL.q_eqB, DL.q_neB, DL.q_isN, DL.q_notN, DL.q_isB, DL.q_notB, DL.t_bl, DL.t_int, DL.x_tup, DL.x_lst, DL.x_scr, DL.x_ref, DL.c_some, DL.n_f, DL.n_t, DL.f_lenT, DL.f_lenL, DL.f_lenC, DL.f_lenR, DL.f_abs, DL.f_min, DL.f_max, DL.f_intI, DL.f_intB, DL.f_tupT, DL.f_tupL, DL.f_tupR, DL.f_lstT, DL.f_lstL, DL.y_int, DL.y_bl, DL.y_str, DL.y_non, DL.y_tup, DL.y_lst, DL.z_tup, DL.z_lst, DL.z_enum, DL.isiD, DL.t_tup, DL.t_lst, DL.a_0, DL.a_1, DL.a_2, DL.a_3, DL.a_4, DL.a_5, DL.a_6, DL.ex_some, DL.ex_env, DL.ex_int, DL.ex_bl, DL.ex_ref, DL.ex_tup, DL.ex_int2, DL.ex_sub, DL.ex_cell, DL.ix_30, DL.ix_31, DL.ix_32, DL.CC.d, DL.startD, DL.wipeD, DL.i2, List.map_cons, List.map_nil, List.length_cons, List.length_nil, List.replicate, List.cons_append, List.nil_append, List.getElem?_cons_zero, List.getElem?_cons_succ, List.set_cons_zero, List.set_cons_succ, Nat.zero_add, Nat.reduceAdd, Nat.reduceSub, decide_eq_true_eq, Bool.not_eq_true', decide_eq_false_iff_not, if_true, Bool.false_eq_true, if_false, ite_true, ite_false, List.getD_cons_zero, List.getD_cons_succ, eq_self, not_true_eq_false, not_false_eq_true, Bool.true_eq_false, Bool.not_true, Bool.not_false, pw2_one]
  refine ⟨cpow1 (by omega) (by omega), mul_small_left (by decide) (by decide), by omega, ?_⟩
  rw [Int.fmod_eq_emod_of_nonneg _ (by omega)]
  exact hQ
def wrappedC (j : Nat) : List CS := [.asg (.tup [(.name 9), (.name 10), (.name 11), (.name 12)]) (.var 0),
  .asg (.tup [(.name 13), (.name 14), (.name 15)]) (.var 1),
  .asg (.name 4) (.call j [(.var 0), (.bin .Sub false (.var 2) (.var 13))]),
  .asg (.name 5) (.call j [(.var 0), (.bin .Sub false (.bin .Sub false (.var 2) (.var 3)) (.var 14))]),
  .asg (.name 6) (.call j [(.var 0), (.bin .Mult false (.var 9) (.var 4))]),
  .asg (.name 7) (.call j [(.var 0), (.bin .Mult false (.var 10) (.var 5))]),
  .asg (.name 8) (.call j [(.var 0), (.bin .RShift false (.call j [(.var 0), (.bin .Add false (.var 6) (.var 7))]) (.var 11))]),
  .ret (.call j [(.var 0), (.bin .Sub false (.var 15) (.var 8))])]
theorem wrapped_ok {G : Fns} {j : Nat} (hG : G.fn j = spBrought) : ∀ ds S Q, spWrapped ds S Q → wpSs G (wrappedC j) (startD 16 ds) S { nx := fun _ S' => Q .non S', rt := Q } := by
  rintro ds S Q ⟨a, b, f, bits, X, V, P, y, y0, rfl, h, hQ⟩
  have := h.a1; have := h.a2; have := h.b1; have := h.b2; have := h.k1; have := h.k2
  have ma : ∀ z, MulOk a z := fun z => mul_small_left (by omega) (by omega)
  have mb : ∀ z, MulOk b z := fun z => mul_small_left (by omega) (by omega)
  unfold wrappedC hndD wshD
  simp only [DL.e_var, DL.e_con, DL.e_glo, DL.e_bin, DL.e_neg, DL.e_cmp, DL.e_chain, DL.e_and, DL.e_or, DL.e_not, DL.e_ite, DL.e_tup, DL.e_lst, DL.e_ix, DL.e_sl, DL.e_call, DL.e_callK, DL.e_bi, DL.e_isi, DL.e_lc, DL.es_nil, DL.es_cons, DL.o_no, DL.o_yes, DL.b_and, DL.b_or, DL.b_not, DL.b_cmp, DL.b_chain, DL.b_val, DL.bs_nil, DL.bs_cons, DL.g_name, DL.g_tup, DL.g_sub, DL.gs_nil, DL.gs_cons, DL.i_seq, DL.i_range1, DL.i_range2, DL.i_range3, DL.i_enum, DL.i_zip, DL.s_nil, DL.s_cons, DL.s_expr, DL.s_ret, DL.s_retN, DL.s_pass, DL.s_brk, DL.s_cont, DL.s_asg, DL.s_par2, DL.s_par3, DL.s_setLc, DL.s_augA, DL.s_augS, DL.s_append, DL.s_if, DL.s_while, DL.s_for, DL.o_add, DL.o_addT, DL.o_addL, DL.o_sub, DL.o_mul, DL.o_mulL, DL.o_fdiv, DL.o_mod, DL.o_pow, DL.o_shl, DL.o_shr, DL.q_lt, DL.q_le, DL.q_gt, DL.q_ge, DL.q_eqI, DL.q_neI, DL.q_eqS, DL.q_neS, DL.q_eqB, DL.q_neB, DL.q_isN, DL.q_notN, DL.q_isB, DL.q_notB, DL.t_bl, DL.t_int, DL.x_tup, DL.x_lst, DL.x_scr, DL.x_ref, DL.c_some, DL.n_f, DL.n_t, DL.f_lenT, DL.f_lenL, DL.f_lenC, DL.f_lenR, DL.f_abs, DL.f_min, DL.f_max, DL.f_intI, DL.f_intB, DL.f_tupT, DL.f_tupL, DL.f_tupR, DL.f_lstT, DL.f_lstL, DL.y_int, DL.y_bl, DL.y_str, DL.y_non, DL.y_tup, DL.y_lst, DL.z_tup, DL.z_lst, DL.z_enum, DL.isiD, DL.t_tup, DL.t_lst, DL.a_0, DL.a_1, DL.a_2, DL.a_3, DL.a_4, DL.a_5, DL.a_6, DL.ex_some, DL.ex_env, DL.ex_int, DL.ex_bl, DL.ex_ref, DL.ex_tup, DL.ex_int2, DL.ex_sub, DL.ex_cell, DL.ix_30, DL.ix_31, DL.ix_32, DL.CC.d, DL.startD, DL.wipeD, DL.i2, List.map_cons, List.map_nil, List.length_cons, List.length_nil, List.replicate, List.cons_append, List.nil_append, List.getElem?_cons_zero, List.getElem?_cons_succ, List.set_cons_zero, List.set_cons_succ, Nat.zero_add, Nat.reduceAdd, Nat.reduceSub, decide_eq_true_eq, Bool.not_eq_true', decide_eq_false_iff_not, if_true, Bool.false_eq_true, if_false, ite_true, ite_false, List.getD_cons_zero, List.getD_cons_succ, eq_self, not_true_eq_false, not_false_eq_true, Bool.true_eq_false, Bool.not_true, Bool.not_false, hG]
  refine ⟨by trivial, by trivial, a, b, f, bits, _, rfl, h.k1, h.k2, ?_⟩
  simp only [DL.e_var, DL.e_con, DL.e_glo, DL.e_bin, DL.e_neg, DL.e_cmp, DL.e_chain, DL.e_and, DL.e_or, DL.e_not, DL.e_ite, DL.e_tup, DL.e_lst, DL.e_ix, DL.e_sl, DL.e_call, DL.e_callK, DL.e_bi, DL.e_isi, DL.e_lc, DL.es_nil, DL.es_cons, DL.o_no, DL.o_yes, DL.b_and, DL.b_or, DL.b_not, DL.b_cmp, DL.b_chain, DL.b_val, DL.bs_nil, DL.bs_cons, DL.g_name, DL.g_tup, DL.g_sub, DL.gs_nil, DL.gs_cons, DL.i_seq, DL.i_range1, DL.i_range2, DL.i_range3, DL.i_enum, DL.i_zip, DL.s_nil, DL.s_cons, DL.s_expr, DL.s_ret, DL.s_retN, DL.s_pass, DL.s_brk, DL.s_cont, DL.s_asg, DL.s_par2, DL.s_par3, DL.s_setLc, DL.s_augA, DL.s_augS, DL.s_append, DL.s_if, DL.s_while, DL.s_for, DL.o_add, DL.o_addT, DL.o_addL, DL.o_sub, DL.o_mul, DL.o_mulL, DL.o_fdiv, DL.o_mod, DL.o_pow, DL.o_shl, DL.o_shr, DL.q_lt, DL.q_le, DL.q_gt, DL.q_ge, DL.q_eqI, DL.q_neI, DL.q_eqS, DL.q_neS, DL.q_eqB, DL.q_neB, DL.q_isN, DL.q_notN, DL.q_isB, DL.q_notB, DL.t_bl, DL.t_int, DL.x_tup, DL.x_lst, DL.x_scr, DL.x_ref, DL.c_some, DL.n_f, DL.n_t, DL.f_lenT, DL.f_lenL, DL.f_lenC, DL.f_lenR, DL.f_abs, DL.f_min, DL.f_max, DL.f_intI, DL.f_intB, DL.f_tupT, DL.f_tupL, DL.f_tupR, DL.f_lstT, DL.f_lstL, DL.y_int, DL.y_bl, DL.y_str, DL.y_non, DL.y_tup, DL.y_lst, DL.z_tup, DL.z_lst, DL.z_enum, DL.isiD, DL.t_tup, DL.t_lst, DL.a_0, DL.a_1, DL.a_2, DL.a_3, DL.a_4, DL.a_5, DL.a_6, DL.ex_some, DL.ex_env, DL.ex_int, DL.ex_bl, DL.ex_ref, DL.ex_tup, DL.ex_int2, DL.ex_sub, DL.ex_cell, DL.ix_30, DL.ix_31, DL.ix_32, DL.CC.d, DL.startD, DL.wipeD, DL.i2, List.map_cons, List.map_nil, List.length_cons, List.length_nil, List.replicate, List.cons_append, List.nil_append, List.getElem?_cons_zero, List.getElem?_cons_succ, List.set_cons_zero, List.set_cons_succ, Nat.zero_add, Nat.reduceAdd, Nat.reduceSub, decide_eq_true_eq, Bool.not_eq_true', decide_eq_false_iff_not, if_true, Bool.false_eq_true, if_false, ite_true, ite_false, List.getD_cons_zero, List.getD_cons_succ, eq_self, not_true_eq_false, not_false_eq_true, Bool.true_eq_false, Bool.not_true, Bool.not_false, hG]
  refine ⟨a, b, f, bits, _, rfl, h.k1, h.k2, ?_⟩
  simp only [DL.e_var, DL.e_con, DL.e_glo, DL.e_bin, DL.e_neg, DL.e_cmp, DL.e_chain, DL.e_and, DL.e_or, DL.e_not, DL.e_ite, DL.e_tup, DL.e_lst, DL.e_ix, DL.e_sl, DL.e_call, DL.e_callK, DL.e_bi, DL.e_isi, DL.e_lc, DL.es_nil, DL.es_cons, DL.o_no, DL.o_yes, DL.b_and, DL.b_or, DL.b_not, DL.b_cmp, DL.b_chain, DL.b_val, DL.bs_nil, DL.bs_cons, DL.g_name, DL.g_tup, DL.g_sub, DL.gs_nil, DL.gs_cons, DL.i_seq, DL.i_range1, DL.i_range2, DL.i_range3, DL.i_enum, DL.i_zip, DL.s_nil, DL.s_cons, DL.s_expr, DL.s_ret, DL.s_retN, DL.s_pass, DL.s_brk, DL.s_cont, DL.s_asg, DL.s_par2, DL.s_par3, DL.s_setLc, DL.s_augA, DL.s_augS, DL.s_append, DL.s_if, DL.s_while, DL.s_for, DL.o_add, DL.o_addT, DL.o_addL, DL.o_sub, DL.o_mul, DL.o_mulL, DL.o_fdiv, DL.o_mod, DL.o_pow, DL.o_shl, DL.o_shr, DL.q_lt, DL.q_le, DL.q_gt, DL.q_ge, DL.q_eqI, DL.q_neI, DL.q_eqS, DL.q_neS, DL.q_eqB, DL.q_neB, DL.q_isN, DL.q_notN, DL.q_isB, DL.q_notB, DL.t_bl, DL.t_int, DL.x_tup, DL.x_lst, DL.x_scr, DL.x_ref, DL.c_some, DL.n_f, DL.n_t, DL.f_lenT, DL.f_lenL, DL.f_lenC, DL.f_lenR, DL.f_abs, DL.f_min, DL.f_max, DL.f_intI, DL.f_intB, DL.f_tupT, DL.f_tupL, DL.f_tupR, DL.f_lstT, DL.f_lstL, DL.y_int, DL.y_bl, DL.y_str, DL.y_non, DL.y_tup, DL.y_lst, DL.z_tup, DL.z_lst, DL.z_enum, DL.isiD, DL.t_tup, DL.t_lst, DL.a_0, DL.a_1, DL.a_2, DL.a_3, DL.a_4, DL.a_5, DL.a_6, DL.ex_some, DL.ex_env, DL.ex_int, DL.ex_bl, DL.ex_ref, DL.ex_tup, DL.ex_int2, DL.ex_sub, DL.ex_cell, DL.ix_30, DL.ix_31, DL.ix_32, DL.CC.d, DL.startD, DL.wipeD, DL.i2, List.map_cons, List.map_nil, List.length_cons, List.length_nil, List.replicate, List.cons_append, List.nil_append, List.getElem?_cons_zero, List.getElem?_cons_succ, List.set_cons_zero, List.set_cons_succ, Nat.zero_add, Nat.reduceAdd, Nat.reduceSub, decide_eq_true_eq, Bool.not_eq_true', decide_eq_false_iff_not, if_true, Bool.false_eq_true, if_false, ite_true, ite_false, List.getD_cons_zero, List.getD_cons_succ, eq_self, not_true_eq_false, not_false_eq_true, Bool.true_eq_false, Bool.not_true, Bool.not_false, hG]
  refine ⟨ma _, a, b, f, bits, _, rfl, h.k1, h.k2, ?_⟩
  simp only [DL.e_var, DL.e_con, DL.e_glo, DL.e_bin, DL.e_neg, DL.e_cmp, DL.e_chain, DL.e_and, DL.e_or, DL.e_not, DL.e_ite, DL.e_tup, DL.e_lst, DL.e_ix, DL.e_sl, DL.e_call, DL.e_callK, DL.e_bi, DL.e_isi, DL.e_lc, DL.es_nil, DL.es_cons, DL.o_no, DL.o_yes, DL.b_and, DL.b_or, DL.b_not, DL.b_cmp, DL.b_chain, DL.b_val, DL.bs_nil, DL.bs_cons, DL.g_name, DL.g_tup, DL.g_sub, DL.gs_nil, DL.gs_cons, DL.i_seq, DL.i_range1, DL.i_range2, DL.i_range3, DL.i_enum, DL.i_zip, DL.s_nil, DL.s_cons, DL.s_expr, DL.s_ret, DL.s_retN, DL.s_pass, DL.s_brk, DL.s_cont, DL.s_asg, DL.s_par2, DL.s_par3, DL.s_setLc, DL.s_augA, DL.s_augS, DL.s_append, DL.s_if, DL.s_while, DL.s_for, DL.o_add, DL.o_addT, DL.o_addL, DL.o_sub, DL.o_mul, DL.o_mulL, DL.o_fdiv, DL.o_mod, DL.o_pow, DL.o_shl, DL.o_shr, DL.q_lt, DL.q_le, DL.q_gt, DL.q_ge, DL.q_eqI, DL.q_neI, DL.q_eqS, DL.q_neS, DL.q_eqB, DL.q_neB, DL.q_isN, DL.q_notN, DL.q_isB, DL.q_notB, DL.t_bl, DL.t_int, DL.x_tup, DL.x_lst, DL.x_scr, DL.x_ref, DL.c_some, DL.n_f, DL.n_t, DL.f_lenT, DL.f_lenL, DL.f_lenC, DL.f_lenR, DL.f_abs, DL.f_min, DL.f_max, DL.f_intI, DL.f_intB, DL.f_tupT, DL.f_tupL, DL.f_tupR, DL.f_lstT, DL.f_lstL, DL.y_int, DL.y_bl, DL.y_str, DL.y_non, DL.y_tup, DL.y_lst, DL.z_tup, DL.z_lst, DL.z_enum, DL.isiD, DL.t_tup, DL.t_lst, DL.a_0, DL.a_1, DL.a_2, DL.a_3, DL.a_4, DL.a_5, DL.a_6, DL.ex_some, DL.ex_env, DL.ex_int, DL.ex_bl, DL.ex_ref, DL.ex_tup, DL.ex_int2, DL.ex_sub, DL.ex_cell, DL.ix_30, DL.ix_31, DL.ix_32, DL.CC.d, DL.startD, DL.wipeD, DL.i2, List.map_cons, List.map_nil, List.length_cons, List.length_nil, List.replicate, List.cons_append, List.nil_append, List.getElem?_cons_zero, List.getElem?_cons_succ, List.set_cons_zero, List.set_cons_succ, Nat.zero_add, Nat.reduceAdd, Nat.reduceSub, decide_eq_true_eq, Bool.not_eq_true', decide_eq_false_iff_not, if_true, Bool.false_eq_true, if_false, ite_true, ite_false, List.getD_cons_zero, List.getD_cons_succ, eq_self, not_true_eq_false, not_false_eq_true, Bool.true_eq_false, Bool.not_true, Bool.not_false, hG]
  refine ⟨mb _, a, b, f, bits, _, rfl, h.k1, h.k2, ?_⟩
  simp only [DL.e_var, DL.e_con, DL.e_glo, DL.e_bin, DL.e_neg, DL.e_cmp, DL.e_chain, DL.e_and, DL.e_or, DL.e_not, DL.e_ite, DL.e_tup, DL.e_lst, DL.e_ix, DL.e_sl, DL.e_call, DL.e_callK, DL.e_bi, DL.e_isi, DL.e_lc, DL.es_nil, DL.es_cons, DL.o_no, DL.o_yes, DL.b_and, DL.b_or, DL.b_not, DL.b_cmp, DL.b_chain, DL.b_val, DL.bs_nil, DL.bs_cons, DL.g_name, DL.g_tup, DL.g_sub, DL.gs_nil, DL.gs_cons, DL.i_seq, DL.i_range1, DL.i_range2, DL.i_range3, DL.i_enum, DL.i_zip, DL.s_nil, DL.s_cons, DL.s_expr, DL.s_ret, DL.s_retN, DL.s_pass, DL.s_brk, DL.s_cont, DL.s_asg, DL.s_par2, DL.s_par3, DL.s_setLc, DL.s_augA, DL.s_augS, DL.s_append, DL.s_if, DL.s_while, DL.s_for, DL.o_add, DL.o_addT, DL.o_addL, DL.o_sub, DL.o_mul, DL.o_mulL, DL.o_fdiv, DL.o_mod, DL.o_pow, DL.o_shl, DL.o_shr, DL.q_lt, DL.q_le, DL.q_gt, DL.q_ge, DL.q_eqI, DL.q_neI, DL.q_eqS, DL.q_neS, DL.q_eqB, DL.q_neB, DL.q_isN, DL.q_notN, DL.q_isB, DL.q_notB, DL.t_bl, DL.t_int, DL.x_tup, DL.x_lst, DL.x_scr, DL.x_ref, DL.c_some, DL.n_f, DL.n_t, DL.f_lenT, DL.f_lenL, DL.f_lenC, DL.f_lenR, DL.f_abs, DL.f_min, DL.f_max, DL.f_intI, DL.f_intB, DL.f_tupT, DL.f_tupL, DL.f_tupR, DL.f_lstT, DL.f_lstL, DL.y_int, DL.y_bl, DL.y_str, DL.y_non, DL.y_tup, DL.y_lst, DL.z_tup, DL.z_lst, DL.z_enum, DL.isiD, DL.t_tup, DL.t_lst, DL.a_0, DL.a_1, DL.a_2, DL.a_3, DL.a_4, DL.a_5, DL.a_6, DL.ex_some, DL.ex_env, DL.ex_int, DL.ex_bl, DL.ex_ref, DL.ex_tup, DL.ex_int2, DL.ex_sub, DL.ex_cell, DL.ix_30, DL.ix_31, DL.ix_32, DL.CC.d, DL.startD, DL.wipeD, DL.i2, List.map_cons, List.map_nil, List.length_cons, List.length_nil, List.replicate, List.cons_append, List.nil_append, List.getElem?_cons_zero, List.getElem?_cons_succ, List.set_cons_zero, List.set_cons_succ, Nat.zero_add, Nat.reduceAdd, Nat.reduceSub, decide_eq_true_eq, Bool.not_eq_true', decide_eq_false_iff_not, if_true, Bool.false_eq_true, if_false, ite_true, ite_false, List.getD_cons_zero, List.getD_cons_succ, eq_self, not_true_eq_false, not_false_eq_true, Bool.true_eq_false, Bool.not_true, Bool.not_false, hG]
  refine ⟨a, b, f, bits, _, rfl, h.k1, h.k2, ?_⟩
  simp only [DL.e_var, DL.e_con, DL.e_glo, DL.e_bin, DL.e_neg, DL.e_cmp, DL.e_chain, DL.e_and, DL.e_or, DL.e_not, DL.e_ite, DL.e_tup, DL.e_lst, DL.e_ix, DL.e_sl, DL.e_call, DL.e_callK, DL.e_bi, DL.e_isi, DL.e_lc, DL.es_nil, DL.es_cons, DL.o_no, DL.o_yes, DL.b_and, DL.b_or, DL.b_not, DL.b_cmp, DL.b_chain, DL.b_val, DL.bs_nil, DL.bs_cons, DL.g_name, DL.g_tup, DL.g_sub, DL.gs_nil, DL.gs_cons, DL.i_seq, DL.i_range1, DL.i_range2, DL.i_range3, DL.i_enum, DL.i_zip, DL.s_nil, DL.s_cons, DL.s_expr, DL.s_ret, DL.s_retN, DL.s_pass, DL.s_brk, DL.s_cont, DL.s_asg, DL.s_par2, DL.s_par3, DL.s_setLc, DL.s_augA, DL.s_augS, DL.s_append, DL.s_if, DL.s_while, DL.s_for, DL.o_add, DL.o_addT, DL.o_addL, DL.o_sub, DL.o_mul, DL.o_mulL, DL.o_fdiv, DL.o_mod, DL.o_pow, DL.o_shl, DL.o_shr, DL.q_lt, DL.q_le, DL.q_gt, DL.q_ge, DL.q_eqI, DL.q_neI, DL.q_eqS, DL.q_neS, DL.q_eqB, DL.q_neB, DL.q_isN, DL.q_notN, DL.q_isB, DL.q_notB, DL.t_bl, DL.t_int, DL.x_tup, DL.x_lst, DL.x_scr, DL.x_ref, DL.c_some, DL.n_f, DL.n_t, DL.f_lenT, DL.f_lenL, DL.f_lenC, DL.f_lenR, DL.f_abs, DL.f_min, DL.f_max, DL.f_intI, DL.f_intB, DL.f_tupT, DL.f_tupL, DL.f_tupR, DL.f_lstT, DL.f_lstL, DL.y_int, DL.y_bl, DL.y_str, DL.y_non, DL.y_tup, DL.y_lst, DL.z_tup, DL.z_lst, DL.z_enum, DL.isiD, DL.t_tup, DL.t_lst, DL.a_0, DL.a_1, DL.a_2, DL.a_3, DL.a_4, DL.a_5, DL.a_6, DL.ex_some, DL.ex_env, DL.ex_int, DL.ex_bl, DL.ex_ref, DL.ex_tup, DL.ex_int2, DL.ex_sub, DL.ex_cell, DL.ix_30, DL.ix_31, DL.ix_32, DL.CC.d, DL.startD, DL.wipeD, DL.i2, List.map_cons, List.map_nil, List.length_cons, List.length_nil, List.replicate, List.cons_append, List.nil_append, List.getElem?_cons_zero, List.getElem?_cons_succ, List.set_cons_zero, List.set_cons_succ, Nat.zero_add, Nat.reduceAdd, Nat.reduceSub, decide_eq_true_eq, Bool.not_eq_true', decide_eq_false_iff_not, if_true, Bool.false_eq_true, if_false, ite_true, ite_false, List.getD_cons_zero, List.getD_cons_succ, eq_self, not_true_eq_false, not_false_eq_true, Bool.true_eq_false, Bool.not_true, Bool.not_false, hG]
  refine ⟨h.f1, a, b, f, bits, _, rfl, h.k1, h.k2, ?_⟩
  simp only [DL.e_var, DL.e_con, DL.e_glo, DL.e_bin, DL.e_neg, DL.e_cmp, DL.e_chain, DL.e_and, DL.e_or, DL.e_not, DL.e_ite, DL.e_tup, DL.e_lst, DL.e_ix, DL.e_sl, DL.e_call, DL.e_callK, DL.e_bi, DL.e_isi, DL.e_lc, DL.es_nil, DL.es_cons, DL.o_no, DL.o_yes, DL.b_and, DL.b_or, DL.b_not, DL.b_cmp, DL.b_chain, DL.b_val, DL.bs_nil, DL.bs_cons, DL.g_name, DL.g_tup, DL.g_sub, DL.gs_nil, DL.gs_cons, DL.i_seq, DL.i_range1, DL.i_range2, DL.i_range3, DL.i_enum, DL.i_zip, DL.s_nil, DL.s_cons, DL.s_expr, DL.s_ret, DL.s_retN, DL.s_pass, DL.s_brk, DL.s_cont, DL.s_asg, DL.s_par2, DL.s_par3, DL.s_setLc, DL.s_augA, DL.s_augS, DL.s_append, DL.s_if, DL.s_while, DL.s_for, DL.o_add, DL.o_addT, DL.o_addL, DL.o_sub, DL.o_mul, DL.o_mulL, DL.o_fdiv, DL.o_mod, DL.o_pow, DL.o_shl, DL.o_shr, DL.q_lt, DL.q_le, DL.q_gt, DL.q_ge, DL.q_eqI, DL.q_neI, DL.q_eqS, DL.q_neS, DL.q_eqB, DL.q_neB, DL.q_isN, DL.q_notN, DL.q_isB, DL.q_notB, DL.t_bl, DL.t_int, DL.x_tup, DL.x_lst, DL.x_scr, DL.x_ref, DL.c_some, DL.n_f, DL.n_t, DL.f_lenT, DL.f_lenL, DL.f_lenC, DL.f_lenR, DL.f_abs, DL.f_min, DL.f_max, DL.f_intI, DL.f_intB, DL.f_tupT, DL.f_tupL, DL.f_tupR, DL.f_lstT, DL.f_lstL, DL.y_int, DL.y_bl, DL.y_str, DL.y_non, DL.y_tup, DL.y_lst, DL.z_tup, DL.z_lst, DL.z_enum, DL.isiD, DL.t_tup, DL.t_lst, DL.a_0, DL.a_1, DL.a_2, DL.a_3, DL.a_4, DL.a_5, DL.a_6, DL.ex_some, DL.ex_env, DL.ex_int, DL.ex_bl, DL.ex_ref, DL.ex_tup, DL.ex_int2, DL.ex_sub, DL.ex_cell, DL.ix_30, DL.ix_31, DL.ix_32, DL.CC.d, DL.startD, DL.wipeD, DL.i2, List.map_cons, List.map_nil, List.length_cons, List.length_nil, List.replicate, List.cons_append, List.nil_append, List.getElem?_cons_zero, List.getElem?_cons_succ, List.set_cons_zero, List.set_cons_succ, Nat.zero_add, Nat.reduceAdd, Nat.reduceSub, decide_eq_true_eq, Bool.not_eq_true', decide_eq_false_iff_not, if_true, Bool.false_eq_true, if_false, ite_true, ite_false, List.getD_cons_zero, List.getD_cons_succ, eq_self, not_true_eq_false, not_false_eq_true, Bool.true_eq_false, Bool.not_true, Bool.not_false, hG]
  exact ⟨a, b, f, bits, _, rfl, h.k1, h.k2, hQ⟩
/-! ### about bro -/
theorem bro_bd (bits x : Int) : -pw2 (bits - 1) ≤ bro bits x ∧ bro bits x < pw2 (bits - 1) := by
  have hp := pw2_pos (bits - 1)
  have h1 := Int.emod_nonneg (x + pw2 (bits - 1)) (show 2 * pw2 (bits - 1) ≠ 0 by omega)
  have h2 := Int.emod_lt_of_pos (x + pw2 (bits - 1)) (show 0 < 2 * pw2 (bits - 1) by omega)
  unfold bro
  omega
theorem bro_fit {bits x : Int} (h1 : -pw2 (bits - 1) ≤ x) (h2 : x < pw2 (bits - 1)) : bro bits x = x := by
  unfold bro
  rw [Int.emod_eq_of_lt (by omega) (by omega)]; omega
/-- the same but for multiples of the stretch -/
def Cg (bits x y : Int) : Prop := ∃ k, x = y + k * (2 * pw2 (bits - 1))
theorem bro_cg {bits x y : Int} (h : Cg bits x y) : bro bits x = bro bits y := by
  obtain ⟨k, rfl⟩ := h
  unfold bro
  rw [show y + k * (2 * pw2 (bits - 1)) + pw2 (bits - 1) = (y + pw2 (bits - 1)) + k * (2 * pw2 (bits - 1)) by omega, Int.add_mul_emod_self_right]
theorem cg_bro (bits x : Int) : Cg bits (bro bits x) x := by
  refine ⟨-((x + pw2 (bits - 1)) / (2 * pw2 (bits - 1))), ?_⟩
  have := Int.emod_add_mul_ediv (x + pw2 (bits - 1)) (2 * pw2 (bits - 1))
  unfold bro
  rw [Int.neg_mul, Int.mul_comm ((x + pw2 (bits - 1)) / (2 * pw2 (bits - 1)))]
  omega
theorem Cg.refl (bits x : Int) : Cg bits x x := ⟨0, by omega⟩
theorem Cg.symm {bits x y : Int} (h : Cg bits x y) : Cg bits y x := by
  obtain ⟨k, rfl⟩ := h; exact ⟨-k, by rw [Int.neg_mul]; omega⟩
theorem Cg.trans {bits x y z : Int} (h : Cg bits x y) (h' : Cg bits y z) : Cg bits x z := by
  obtain ⟨k, rfl⟩ := h; obtain ⟨l, rfl⟩ := h'; exact ⟨k + l, by rw [Int.add_mul]; omega⟩
theorem Cg.add {bits x y u v : Int} (h : Cg bits x y) (h' : Cg bits u v) : Cg bits (x + u) (y + v) := by
  obtain ⟨k, rfl⟩ := h; obtain ⟨l, rfl⟩ := h'; exact ⟨k + l, by rw [Int.add_mul]; omega⟩
theorem Cg.sub {bits x y u v : Int} (h : Cg bits x y) (h' : Cg bits u v) : Cg bits (x - u) (y - v) := by
  obtain ⟨k, rfl⟩ := h; obtain ⟨l, rfl⟩ := h'; exact ⟨k - l, by rw [Int.sub_mul]; omega⟩
theorem Cg.mul {bits x y u v : Int} (h : Cg bits x y) (h' : Cg bits u v) : Cg bits (x * u) (y * v) := by
  obtain ⟨k, rfl⟩ := h; obtain ⟨l, rfl⟩ := h'
  exact ⟨k * v + y * l + k * l * (2 * pw2 (bits - 1)), by grind⟩
/-- the sum as wrapped -/
def mid (a b bits X V y y0 : Int) : Int := bro bits (bro bits (a * bro bits (y - X)) + bro bits (b * bro bits (y - y0 - V)))
theorem mid_eq (a b bits X V y y0 : Int) : mid a b bits X V y y0 = bro bits (smH a b X V y y0) := by
  unfold mid smH
  refine bro_cg (Cg.add ?_ ?_)
  · exact (cg_bro _ _).trans (Cg.mul (Cg.refl _ _) (cg_bro _ _))
  · exact (cg_bro _ _).trans (Cg.mul (Cg.refl _ _) (cg_bro _ _))
theorem wrp_eq (a b f bits X V P y y0 : Int) : wrp a b f bits X V P y y0 = bro bits (P - bro bits (bro bits (smH a b X V y y0) / pw2 f)) := by
  rw [← mid_eq]; rfl
/-- what is asked of a push hangs on its parts but for multiples -/
theorem wrp_cg {a b f bits X V P y y0 a' b' X' V' P' y' y0' : Int} (h1 : Cg bits a a') (h2 : Cg bits b b') (h3 : Cg bits X X') (h4 : Cg bits V V') (h5 : Cg bits P P') (h6 : Cg bits y y') (h7 : Cg bits y0 y0') :
    wrp a b f bits X V P y y0 = wrp a' b' f bits X' V' P' y' y0' := by
  rw [wrp_eq, wrp_eq]
  have e : bro bits (smH a b X V y y0) = bro bits (smH a' b' X' V' y' y0') := bro_cg ((Cg.mul h1 (h6.sub h3)).add (Cg.mul h2 ((h6.sub h7).sub h4)))
  rw [e]
  exact bro_cg (h5.sub (Cg.refl _ _))
theorem wrp_fit {a b f bits X V P y y0 : Int} (h1 : -pw2 (bits - 1) ≤ smH a b X V y y0 ∧ smH a b X V y y0 < pw2 (bits - 1)) (h2 : -pw2 (bits - 1) ≤ smH a b X V y y0 / pw2 f ∧ smH a b X V y y0 / pw2 f < pw2 (bits - 1))
    (h3 : -pw2 (bits - 1) ≤ P - smH a b X V y y0 / pw2 f ∧ P - smH a b X V y y0 / pw2 f < pw2 (bits - 1)) : wrp a b f bits X V P y y0 = P - smH a b X V y y0 / pw2 f := by
  rw [wrp_eq, bro_fit h1.1 h1.2, bro_fit h2.1 h2.2, bro_fit h3.1 h3.2]
theorem pw2_succ {bits : Int} (h : 1 ≤ bits) : pw2 bits = 2 * pw2 (bits - 1) := by
  unfold pw2
  have : bits.toNat = (bits - 1).toNat + 1 := by omega
  rw [this, Int.pow_succ]; omega
theorem x_sl {m : Bool} {S : DStore} {xs : List D} {lo hi : Option Int} {Q : QE} : slD m S (.tup xs) lo hi Q = Q (.tup (cutD xs lo hi)) S := rfl
/-! ### lists of one thing -/
theorem gather_const {xs : List D} {v : D} {I : DStore → Prop} {S : DStore} {turn : D → DStore → (Option D → DStore → Prop) → Prop} {Q : List D → DStore → Prop} (hl : xs.length ≤ sizeLine) (hI : I S)
    (hs : ∀ x ∈ xs, ∀ N : Option D → DStore → Prop, N (some v) S → turn x S N) (hQ : Q (List.replicate xs.length v) S) : wpGather xs I S turn Q := by
  have := gather_map (xs := xs) (fun x => x) (fun _ => v) (I := I) (S := S) (turn := turn) (Q := Q) hl hI hs (by rw [List.map_const']; exact hQ)
  rwa [List.map_id'] at this
theorem purs_rep {d : D} {p : PyData} (h : pur d = some p) : ∀ n, purs (List.replicate n d) = some (List.replicate n p)
  | 0 => rfl
  | n + 1 => by rw [List.replicate_succ, List.replicate_succ, purs, h, purs_rep h n]; rfl
theorem lay_rep {p : PyData} (h : p.canLay0 = true) : ∀ n, PyData.canLayAll0 (List.replicate n p) = true
  | 0 => rfl
  | n + 1 => by rw [List.replicate_succ, PyData.canLayAll0, h, lay_rep h n]; rfl
theorem depth_rep (p : PyData) : ∀ n, PyData.depthAll (List.replicate n p) ≤ p.depth
  | 0 => Nat.zero_le _
  | n + 1 => by
    rw [List.replicate_succ, PyData.depthAll]
    exact Nat.max_le.mpr ⟨Nat.le_refl _, depth_rep p n⟩
theorem flat_rep {α : Type} (x : α) : ∀ n, (List.replicate n [x]).flatten = List.replicate n x
  | 0 => rfl
  | n + 1 => by rw [List.replicate_succ, List.flatten_cons, flat_rep x n]; rfl
/-- two lists of the same -/
theorem eq_same {S : DStore} {x : D} {p : PyData} {QB : Bool → Prop} (hx : ∀ i, x ≠ .int i) (hb : ∀ i, x ≠ .bl i) (hst : ∀ i, x ≠ .str i) (e : purS S x = some p) (sh : SeqAt.shaped p = true) (q : QB true) : cmpD .Eq S x x QB := by
  show eqD S x x QB
  unfold eqD
  split
  · exact absurd rfl (hx _)
  · exact absurd rfl (hb _)
  · exact absurd rfl (hst _)
  · have lay : p.canLay0 = true := by
      unfold SeqAt.shaped at sh
      exact (Bool.and_eq_true_iff.mp sh).1
    exact ⟨p, p, e, e, sh, sh, by rw [SeqAt.eqv_refl p lay]; exact q⟩
end DL

namespace Law_k36
open PySem PySem.Spec PyProof.Rows L2 DL
def topS (i : Nat) : Stmt := PySem.Challenge.pw_drivenwheels_k36_pushes_and_wishes.main.body.getD i (.Pass ⟨0, 0, 0, 0⟩)
abbrev s0 : Stmt := topS 1
def n0 : List Str := ["one", "other"]
def p0 : List Str := ["one", "other"]
theorem sc0 : FnScope n0 p0 (L2.defScope s0) := ⟨rfl, rfl, rfl, by decide +kernel, rfl, by decide +kernel, by decide +kernel⟩
/-- common -/
def c0 : List CS := [.while_ (.ccmp .NotEq (.var 1) (.con (.int 0))) [.par2 0 1 (.var 1) (.bin .Mod false (.var 0) (.var 1))],
  .ret (.bi .abs false [(.var 0)])]
abbrev s1 : Stmt := topS 2
def n1 : List Str := ["n", "d", "both"]
def p1 : List Str := ["n", "d"]
theorem sc1 : FnScope n1 p1 (L2.defScope s1) := ⟨rfl, rfl, rfl, by decide +kernel, rfl, by decide +kernel, by decide +kernel⟩
/-- made -/
def c1 : List CS := [.asg (.name 2) (.call 0 [(.var 0), (.var 1)]),
  .if_ (.ccmp .Lt (.var 1) (.con (.int 0))) [.asg (.name 2) (.neg (.var 2))] [],
  .ret (.tup [(.bin .FloorDiv false (.var 0) (.var 2)), (.bin .FloorDiv false (.var 1) (.var 2))])]
abbrev s2 : Stmt := topS 4
def n2 : List Str := ["hand", "wish", "y", "y0", "first", "second", "f", "bits", "place", "pace", "push", "off", "step_off"]
def p2 : List Str := ["hand", "wish", "y", "y0"]
theorem sc2 : FnScope n2 p2 (L2.defScope s2) := ⟨rfl, rfl, rfl, by decide +kernel, rfl, by decide +kernel, by decide +kernel⟩
/-- parted -/
def c2 : List CS := [.asg (.tup [(.name 4), (.name 5), (.name 6), (.name 7)]) (.var 0),
  .asg (.tup [(.name 8), (.name 9), (.name 10)]) (.var 1),
  .par2 11 12 (.bin .Sub false (.var 2) (.var 8)) (.bin .Sub false (.bin .Sub false (.var 2) (.var 3)) (.var 9)),
  .ret (.tup [(.var 11), (.var 12), (.bin .Mult false (.var 4) (.var 11)), (.bin .Mult false (.var 5) (.var 12)), (.bin .Add false (.bin .Mult false (.var 4) (.var 11)) (.bin .Mult false (.var 5) (.var 12)))])]
abbrev s3 : Stmt := topS 5
def n3 : List Str := ["hand", "wish", "y", "y0", "brought"]
def p3 : List Str := ["hand", "wish", "y", "y0"]
theorem sc3 : FnScope n3 p3 (L2.defScope s3) := ⟨rfl, rfl, rfl, by decide +kernel, rfl, by decide +kernel, by decide +kernel⟩
/-- exact -/
def c3 : List CS := [.asg (.name 4) (.bin .LShift false (.con (.int 1)) (.ix (.var 0) (.con (.int 2)))),
  .ret (.call 1 [(.bin .Sub false (.bin .Mult false (.ix (.var 1) (.con (.int 2))) (.var 4)) (.ix (.call 2 [(.var 0), (.var 1), (.var 2), (.var 3)]) (.con (.int 4)))), (.var 4)])]
abbrev s4 : Stmt := topS 6
def n4 : List Str := ["hand", "wish", "y", "y0", "five", "down"]
def p4 : List Str := ["hand", "wish", "y", "y0"]
theorem sc4 : FnScope n4 p4 (L2.defScope s4) := ⟨rfl, rfl, rfl, by decide +kernel, rfl, by decide +kernel, by decide +kernel⟩
/-- numbers -/
def c4 : List CS := [.asg (.name 4) (.call 2 [(.var 0), (.var 1), (.var 2), (.var 3)]),
  .asg (.name 5) (.bin .RShift false (.ix (.var 4) (.con (.int 4))) (.ix (.var 0) (.con (.int 2)))),
  .ret (.bin .Add false (.var 4) (.tup [(.var 5), (.bin .Sub false (.ix (.var 1) (.con (.int 2))) (.var 5))]))]
abbrev s5 : Stmt := topS 7
def n5 : List Str := ["hand", "wish", "y", "y0"]
def p5 : List Str := ["hand", "wish", "y", "y0"]
theorem sc5 : FnScope n5 p5 (L2.defScope s5) := ⟨rfl, rfl, rfl, by decide +kernel, rfl, by decide +kernel, by decide +kernel⟩
/-- pushed -/
def c5 : List CS := [.ret (.ix (.call 4 [(.var 0), (.var 1), (.var 2), (.var 3)]) (.con (.int 6)))]
abbrev s6 : Stmt := topS 9
def n6 : List Str := ["wishes", "t", "pace", "later"]
def p6 : List Str := ["wishes", "t"]
theorem sc6 : FnScope n6 p6 (L2.defScope s6) := ⟨rfl, rfl, rfl, by decide +kernel, rfl, by decide +kernel, by decide +kernel⟩
/-- wish_at -/
def c6 : List CS := [.asg (.name 2) (.ite (.ccmp .Gt (.var 1) (.con (.int 0))) (.bin .Sub false (.ix (.var 0) (.var 1)) (.ix (.var 0) (.bin .Sub false (.var 1) (.con (.int 1))))) (.con (.int 0))),
  .asg (.name 3) (.ite (.ccmp .Lt (.bin .Add false (.var 1) (.con (.int 1))) (.bi .len false [(.var 0)])) (.bin .Sub false (.ix (.var 0) (.bin .Add false (.var 1) (.con (.int 1)))) (.ix (.var 0) (.var 1))) (.con (.int 0))),
  .ret (.tup [(.ix (.var 0) (.var 1)), (.var 2), (.bin .Sub false (.var 3) (.var 2))])]
abbrev s7 : Stmt := topS 11
def n7 : List Str := ["_law_script", "_law_k", "_law_cell", "_law_great"]
def p7 : List Str := ["_law_script", "_law_k"]
theorem sc7 : FnScope n7 p7 (L2.defScope s7) := ⟨rfl, rfl, rfl, by decide +kernel, rfl, by decide +kernel, by decide +kernel⟩
/-- _law_hand -/
def c7 : List CS := [.asg (.name 2) (.ite (.ccmp .Lt (.var 1) (.bi .len false [(.var 0)])) (.ix (.var 0) (.var 1)) (.con (.int 0))),
  .asg (.name 3) (.ite (.ccmp .GtE (.bi .abs false [(.var 2)]) (.bin .Pow false (.con (.int 10)) (.con (.int 18)))) (.bin .Mod false (.bi .abs false [(.var 2)]) (.bin .Mult false (.bin .Mult false (.bin .Pow false (.con (.int 10)) (.con (.int 60))) (.bin .Pow false (.con (.int 10)) (.con (.int 60)))) (.bin .Pow false (.con (.int 10)) (.con (.int 60))))) (.con (.int 0))),
  .ret (.lst true [(.var 3), (.bin .Mod false (.bin .Add false (.bin .Add false (.bin .Mult false (.bin .Mod false (.var 2) (.con (.int 2305843009213693951))) (.con (.int 1000033))) (.bin .Mult false (.con (.int 6857)) (.var 1))) (.con (.int 41))) (.con (.int 2305843009213693921))), (.con (.int 0))])]
abbrev s8 : Stmt := topS 12
def n8 : List Str := ["_law_pot", "_law_many", "_law_turn", "_law_one", "_law_two", "_law_mixed", "_law_last", "_law_digit"]
def p8 : List Str := ["_law_pot", "_law_many"]
theorem sc8 : FnScope n8 p8 (L2.defScope s8) := ⟨rfl, rfl, rfl, by decide +kernel, rfl, by decide +kernel, by decide +kernel⟩
/-- _law_take -/
def c8 : List CS := [.if_ (.ccmp .Gt (.ix (.var 0) (.con (.int 0))) (.con (.int 0))) [.asg (.name 7) (.bin .Mod false (.ix (.var 0) (.con (.int 0))) (.var 1)),
    .asg (.sub (.var 0) (.con (.int 0))) (.bin .FloorDiv false (.ix (.var 0) (.con (.int 0))) (.var 1)),
    .ret (.var 7)] [],
  .asg (.name 2) (.bin .Add false (.ix (.var 0) (.con (.int 2))) (.con (.int 1))),
  .asg (.sub (.var 0) (.con (.int 2))) (.var 2),
  .asg (.name 3) (.bin .Add false (.ix (.var 0) (.con (.int 1))) (.bin .Mult false (.con (.int 15485867)) (.var 2))),
  .asg (.name 4) (.bin .Add false (.bin .Add false (.bin .Mod false (.ix (.var 0) (.con (.int 1))) (.con (.int 7907))) (.bin .Mult false (.con (.int 32452867)) (.var 2))) (.con (.int 19))),
  .asg (.name 5) (.bin .Mod false (.bin .Mult false (.var 3) (.var 4)) (.con (.int 2305843009213693951))),
  .asg (.name 6) (.bin .Add false (.bin .Add false (.bin .Mod false (.var 5) (.con (.int 1000003))) (.bin .Mult false (.con (.int 6700441)) (.var 2))) (.con (.int 7))),
  .ret (.bin .Mod false (.bin .FloorDiv false (.bin .Mod false (.bin .Mult false (.bin .Add false (.var 5) (.con (.int 11))) (.var 6)) (.con (.int 2305843009213693907))) (.con (.int 64))) (.var 1))]
abbrev s9 : Stmt := topS 13
def n9 : List Str := ["_law_pot", "_law_some"]
def p9 : List Str := ["_law_pot", "_law_some"]
theorem sc9 : FnScope n9 p9 (L2.defScope s9) := ⟨rfl, rfl, rfl, by decide +kernel, rfl, by decide +kernel, by decide +kernel⟩
/-- _law_pick -/
def c9 : List CS := [.ret (.ix (.var 1) (.call 8 [(.var 0), (.bi .len false [(.var 1)])]))]
abbrev s10 : Stmt := topS 14
def n10 : List Str := ["_law_pot", "_law_f", "_law_one", "_law_first", "_law_second"]
def p10 : List Str := ["_law_pot"]
theorem sc10 : FnScope n10 p10 (L2.defScope s10) := ⟨rfl, rfl, rfl, by decide +kernel, rfl, by decide +kernel, by decide +kernel⟩
/-- _law_gain_pair -/
def c10 : List CS := [.asg (.name 1) (.call 9 [(.var 0), (.lst false [(.con (.int 1)), (.con (.int 2)), (.con (.int 2)), (.con (.int 3)), (.con (.int 4)), (.con (.int 8))])]),
  .asg (.name 2) (.bin .LShift false (.con (.int 1)) (.var 1)),
  .if_ (.ccmp .Eq (.call 8 [(.var 0), (.con (.int 8))]) (.con (.int 0))) [.ret (.tup [(.bin .Sub false (.call 8 [(.var 0), (.con (.int 9))]) (.con (.int 4))), (.bin .Sub false (.call 8 [(.var 0), (.con (.int 9))]) (.con (.int 4))), (.call 8 [(.var 0), (.con (.int 9))]), (.bin .Add false (.con (.int 8)) (.call 8 [(.var 0), (.con (.int 9))]))])] [],
  .asg (.name 3) (.bin .Add false (.con (.int 1)) (.call 8 [(.var 0), (.bi .max2 false [(.con (.int 1)), (.bin .FloorDiv false (.var 2) (.con (.int 2)))])])),
  .asg (.name 4) (.bin .Add false (.bin .FloorDiv false (.var 2) (.con (.int 2))) (.call 8 [(.var 0), (.bin .Add false (.bin .FloorDiv false (.var 2) (.con (.int 2))) (.con (.int 1)))])),
  .ret (.tup [(.var 3), (.var 4), (.var 1), (.bin .Add false (.call 9 [(.var 0), (.lst false [(.con (.int 10)), (.con (.int 12)), (.con (.int 16)), (.con (.int 24)), (.con (.int 32))])]) (.var 1))])]
abbrev s11 : Stmt := topS 15
def n11 : List Str := ["_law_one", "_law_other"]
def p11 : List Str := ["_law_one", "_law_other"]
theorem sc11 : FnScope n11 p11 (L2.defScope s11) := ⟨rfl, rfl, rfl, by decide +kernel, rfl, by decide +kernel, by decide +kernel⟩
/-- _law_common -/
def c11 : List CS := [.while_ (.ccmp .NotEq (.var 1) (.con (.int 0))) [.par2 0 1 (.var 1) (.bin .Mod false (.var 0) (.var 1))],
  .ret (.bi .abs false [(.var 0)])]
abbrev s12 : Stmt := topS 16
def n12 : List Str := ["_law_upper", "_law_under", "_law_both"]
def p12 : List Str := ["_law_upper", "_law_under"]
theorem sc12 : FnScope n12 p12 (L2.defScope s12) := ⟨rfl, rfl, rfl, by decide +kernel, rfl, by decide +kernel, by decide +kernel⟩
/-- _law_made -/
def c12 : List CS := [.asg (.name 2) (.call 11 [(.var 0), (.var 1)]),
  .ret (.tup [(.bin .FloorDiv false (.var 0) (.var 2)), (.bin .FloorDiv false (.var 1) (.var 2))])]
abbrev s13 : Stmt := topS 17
def n13 : List Str := ["_law_pot", "_law_peak", "_law_at", "_law_k", "_law_found", "_law_far"]
def p13 : List Str := ["_law_pot", "_law_peak"]
theorem sc13 : FnScope n13 p13 (L2.defScope s13) := ⟨rfl, rfl, rfl, by decide +kernel, rfl, by decide +kernel, by decide +kernel⟩
/-- _law_wishes -/
def c13 : List CS := [.asg (.name 2) (.bin .Sub false (.call 8 [(.var 0), (.con (.int 41))]) (.con (.int 20))),
  .par2 4 5 (.lst true [(.var 2)]) (.call 9 [(.var 0), (.lst false [(.con (.int 1)), (.con (.int 3)), (.con (.int 9))])]),
  .for_ (.name 3) (.range1 (.bin .Add false (.con (.int 1)) (.call 8 [(.var 0), (.var 1)]))) [.asg (.name 2) (.bin .Sub false (.bin .Add false (.var 2) (.call 8 [(.var 0), (.bin .Add false (.bin .Mult false (.con (.int 2)) (.var 5)) (.con (.int 1)))])) (.var 5)),
    .append (.var 4) (.var 2)],
  .ret (.bi .tuple1 false [(.var 4)])]
abbrev s14 : Stmt := topS 18
def n14 : List Str := ["_law_goals", "_law_when", "_law_row", "_law_pace"]
def p14 : List Str := ["_law_goals", "_law_when"]
theorem sc14 : FnScope n14 p14 (L2.defScope s14) := ⟨rfl, rfl, rfl, by decide +kernel, rfl, by decide +kernel, by decide +kernel⟩
/-- _law_wish -/
def c14 : List CS := [.asg (.name 2) (.bin .Add false (.bin .Add false (.tup [(.ix (.var 0) (.con (.int 0)))]) (.var 0)) (.tup [(.ix (.var 0) (.neg (.con (.int 1))))])),
  .asg (.name 3) (.bin .Sub false (.ix (.var 2) (.bin .Add false (.var 1) (.con (.int 1)))) (.ix (.var 2) (.var 1))),
  .ret (.tup [(.ix (.var 0) (.var 1)), (.var 3), (.bin .Sub false (.bin .Sub false (.ix (.var 2) (.bin .Add false (.var 1) (.con (.int 2)))) (.ix (.var 2) (.bin .Add false (.var 1) (.con (.int 1))))) (.var 3))])]
abbrev s15 : Stmt := topS 19
def n15 : List Str := ["_law_found", "_law_upper", "_law_under", "_law_part"]
def p15 : List Str := ["_law_found", "_law_upper", "_law_under"]
theorem sc15 : FnScope n15 p15 (L2.defScope s15) := ⟨rfl, rfl, rfl, by decide +kernel, rfl, by decide +kernel, by decide +kernel⟩
/-- _law_same -/
def c15 : List CS := [.if_ (.cor (.cnot (.cval (.isi .tuple (.var 0)))) (.cor (.ccmp .NotEq (.bi .len false [(.var 0)]) (.con (.int 2))) (.ccmp .NotEq (.lc false (.isi .bool (.var 3)) (.name 3) (.seq (.var 0)) [] [3]) (.bin .Mult false (.lst false [(.con (.bl false))]) (.con (.int 2)))))) [.ret (.con (.bl false))] [],
  .if_ (.cor (.cnot (.cval (.isi .int (.ix (.var 0) (.con (.int 0)))))) (.cnot (.cval (.isi .int (.ix (.var 0) (.con (.int 1))))))) [.ret (.con (.bl false))] [],
  .ret (.cmp .Eq (.bi .repr1 false [(.var 0)]) (.bi .repr1 false [(.call 12 [(.var 1), (.var 2)])]))]
abbrev s16 : Stmt := topS 20
def n16 : List Str := ["_law_gains", "_law_wish_here", "_law_y", "_law_y0", "_law_due", "_law_found", "_law_first", "_law_second", "_law_f", "_law_bits", "_law_full", "_law_step"]
def p16 : List Str := ["_law_gains", "_law_wish_here", "_law_y", "_law_y0"]
theorem sc16 : FnScope n16 p16 (L2.defScope s16) := ⟨rfl, rfl, rfl, by decide +kernel, rfl, by decide +kernel, by decide +kernel⟩
/-- _law_push_right -/
def c16 : List CS := [.asg (.tup [(.name 6), (.name 7), (.name 8), (.name 9)]) (.var 0),
  .par2 10 11 (.bin .LShift false (.con (.int 1)) (.var 8)) (.bin .Sub false (.bin .Sub false (.var 2) (.var 3)) (.ix (.var 1) (.con (.int 1)))),
  .asg (.name 4) (.bin .Sub false (.bin .Sub false (.bin .Mult false (.ix (.var 1) (.con (.int 2))) (.var 10)) (.bin .Mult false (.var 6) (.bin .Sub false (.var 2) (.ix (.var 1) (.con (.int 0)))))) (.bin .Mult false (.var 7) (.var 11))),
  .if_ (.cnot (.cval (.call 15 [(.call 3 [(.var 0), (.var 1), (.var 2), (.var 3)]), (.var 4), (.var 10)]))) [.ret (.con (.bl false))] [],
  .asg (.name 5) (.call 5 [(.var 0), (.var 1), (.var 2), (.var 3)]),
  .if_ (.cor (.cval (.isi .bool (.var 5))) (.cnot (.cval (.isi .int (.var 5))))) [.ret (.con (.bl false))] [],
  .ret (.and_ (.cmp .GtE (.bin .Mult false (.var 5) (.var 10)) (.var 4)) (.cmp .Lt (.bin .Mult false (.bin .Sub false (.var 5) (.con (.int 1))) (.var 10)) (.var 4)))]
abbrev s17 : Stmt := topS 21
def n17 : List Str := ["_law_script", "_law_k", "_law_pot", "_law_when", "_law_goals", "_law_far", "_law_wish_here", "_law_gains", "_law_y", "_law_y0"]
def p17 : List Str := ["_law_script"]
theorem sc17 : FnScope n17 p17 (L2.defScope s17) := ⟨rfl, rfl, rfl, by decide +kernel, rfl, by decide +kernel, by decide +kernel⟩
/-- law -/
def c17 : List CS := [.for_ (.name 1) (.range1 (.bi .max2 false [(.con (.int 1)), (.bi .min2 false [(.con (.int 6)), (.bi .len false [(.var 0)])])])) [.asg (.name 2) (.call 7 [(.var 0), (.var 1)]),
    .par2 4 5 (.call 13 [(.var 2), (.con (.int 9))]) (.call 9 [(.var 2), (.lst false [(.con (.int 3)), (.con (.int 40)), (.con (.int 400000))])]),
    .for_ (.name 3) (.range1 (.bi .len false [(.var 4)])) [.asg (.name 6) (.call 6 [(.var 4), (.var 3)]),
    .if_ (.ccmp .NotEq (.bi .repr1 false [(.lst false [(.var 6), (.callK 6 [] [(.var 3), (.var 4)] [1, 0])])]) (.bi .repr1 false [(.bin .Mult false (.lst false [(.call 14 [(.var 4), (.var 3)])]) (.con (.int 2)))])) [.ret (.con (.bl false))] [],
    .asg (.name 7) (.call 10 [(.var 2)]),
    .if_ (.ccmp .Eq (.call 8 [(.var 2), (.con (.int 3))]) (.con (.int 0))) [.asg (.name 7) (.bin .Add false (.tup [(.bin .Sub false (.call 8 [(.var 2), (.con (.int 8193))]) (.con (.int 4096))), (.bin .Sub false (.call 8 [(.var 2), (.con (.int 8193))]) (.con (.int 4096)))]) (.sl false (.var 7) (.yes (.con (.int 2))) .no))] [],
    .asg (.name 8) (.bin .Sub false (.bin .Add false (.ix (.var 6) (.con (.int 0))) (.call 8 [(.var 2), (.bin .Add false (.bin .Mult false (.con (.int 2)) (.var 5)) (.con (.int 1)))])) (.var 5)),
    .asg (.name 9) (.bin .Sub false (.bin .Add false (.var 8) (.call 8 [(.var 2), (.bin .Add false (.bin .Mult false (.con (.int 2)) (.var 5)) (.con (.int 1)))])) (.var 5)),
    .if_ (.cnot (.cval (.call 16 [(.var 7), (.var 6), (.var 8), (.var 9)]))) [.ret (.con (.bl false))] []]],
  .ret (.con (.bl true))]
def gls : List Str := []
def bis : List Str := ["abs", "bool", "int", "isinstance", "len", "max", "min", "range", "repr", "tuple"]
def i0 : FI := ⟨"common", p0, []⟩
def i1 : FI := ⟨"made", p1, []⟩
def i2 : FI := ⟨"parted", p2, []⟩
def i3 : FI := ⟨"exact", p3, []⟩
def i4 : FI := ⟨"numbers", p4, []⟩
def i5 : FI := ⟨"pushed", p5, []⟩
def i6 : FI := ⟨"wish_at", p6, [(["t", "wishes"], [1, 0])]⟩
def i7 : FI := ⟨"_law_hand", p7, []⟩
def i8 : FI := ⟨"_law_take", p8, []⟩
def i9 : FI := ⟨"_law_pick", p9, []⟩
def i10 : FI := ⟨"_law_gain_pair", p10, []⟩
def i11 : FI := ⟨"_law_common", p11, []⟩
def i12 : FI := ⟨"_law_made", p12, []⟩
def i13 : FI := ⟨"_law_wishes", p13, []⟩
def i14 : FI := ⟨"_law_wish", p14, []⟩
def i15 : FI := ⟨"_law_same", p15, []⟩
def i16 : FI := ⟨"_law_push_right", p16, []⟩
def i17 : FI := ⟨"law", p17, []⟩
def T0 : Tb := ⟨[], gls, bis⟩
def T1 : Tb := ⟨[i0], gls, bis⟩
def T2 : Tb := ⟨[i0, i1], gls, bis⟩
def T3 : Tb := ⟨[i0, i1, i2], gls, bis⟩
def T4 : Tb := ⟨[i0, i1, i2, i3], gls, bis⟩
def T5 : Tb := ⟨[i0, i1, i2, i3, i4], gls, bis⟩
def T6 : Tb := ⟨[i0, i1, i2, i3, i4, i5], gls, bis⟩
def T7 : Tb := ⟨[i0, i1, i2, i3, i4, i5, i6], gls, bis⟩
def T8 : Tb := ⟨[i0, i1, i2, i3, i4, i5, i6, i7], gls, bis⟩
def T9 : Tb := ⟨[i0, i1, i2, i3, i4, i5, i6, i7, i8], gls, bis⟩
def T10 : Tb := ⟨[i0, i1, i2, i3, i4, i5, i6, i7, i8, i9], gls, bis⟩
def T11 : Tb := ⟨[i0, i1, i2, i3, i4, i5, i6, i7, i8, i9, i10], gls, bis⟩
def T12 : Tb := ⟨[i0, i1, i2, i3, i4, i5, i6, i7, i8, i9, i10, i11], gls, bis⟩
def T13 : Tb := ⟨[i0, i1, i2, i3, i4, i5, i6, i7, i8, i9, i10, i11, i12], gls, bis⟩
def T14 : Tb := ⟨[i0, i1, i2, i3, i4, i5, i6, i7, i8, i9, i10, i11, i12, i13], gls, bis⟩
def T15 : Tb := ⟨[i0, i1, i2, i3, i4, i5, i6, i7, i8, i9, i10, i11, i12, i13, i14], gls, bis⟩
def T16 : Tb := ⟨[i0, i1, i2, i3, i4, i5, i6, i7, i8, i9, i10, i11, i12, i13, i14, i15], gls, bis⟩
def T17 : Tb := ⟨[i0, i1, i2, i3, i4, i5, i6, i7, i8, i9, i10, i11, i12, i13, i14, i15, i16], gls, bis⟩
def T18 : Tb := ⟨[i0, i1, i2, i3, i4, i5, i6, i7, i8, i9, i10, i11, i12, i13, i14, i15, i16, i17], gls, bis⟩
theorem ok0 : okSs T0 n0 ⟨L2.defScope s0, L2.defScope s0⟩ c0 (L2.defBody s0) = true := by decide +kernel
theorem ok1 : okSs T1 n1 ⟨L2.defScope s1, L2.defScope s1⟩ c1 (L2.defBody s1) = true := by decide +kernel
theorem ok2 : okSs T2 n2 ⟨L2.defScope s2, L2.defScope s2⟩ c2 (L2.defBody s2) = true := by decide +kernel
theorem ok3 : okSs T3 n3 ⟨L2.defScope s3, L2.defScope s3⟩ c3 (L2.defBody s3) = true := by decide +kernel
theorem ok4 : okSs T4 n4 ⟨L2.defScope s4, L2.defScope s4⟩ c4 (L2.defBody s4) = true := by decide +kernel
theorem ok5 : okSs T5 n5 ⟨L2.defScope s5, L2.defScope s5⟩ c5 (L2.defBody s5) = true := by decide +kernel
theorem ok6 : okSs T6 n6 ⟨L2.defScope s6, L2.defScope s6⟩ c6 (L2.defBody s6) = true := by decide +kernel
theorem ok7 : okSs T7 n7 ⟨L2.defScope s7, L2.defScope s7⟩ c7 (L2.defBody s7) = true := by decide +kernel
theorem ok8 : okSs T8 n8 ⟨L2.defScope s8, L2.defScope s8⟩ c8 (L2.defBody s8) = true := by decide +kernel
theorem ok9 : okSs T9 n9 ⟨L2.defScope s9, L2.defScope s9⟩ c9 (L2.defBody s9) = true := by decide +kernel
theorem ok10 : okSs T10 n10 ⟨L2.defScope s10, L2.defScope s10⟩ c10 (L2.defBody s10) = true := by decide +kernel
theorem ok11 : okSs T11 n11 ⟨L2.defScope s11, L2.defScope s11⟩ c11 (L2.defBody s11) = true := by decide +kernel
theorem ok12 : okSs T12 n12 ⟨L2.defScope s12, L2.defScope s12⟩ c12 (L2.defBody s12) = true := by decide +kernel
theorem ok13 : okSs T13 n13 ⟨L2.defScope s13, L2.defScope s13⟩ c13 (L2.defBody s13) = true := by decide +kernel
theorem ok14 : okSs T14 n14 ⟨L2.defScope s14, L2.defScope s14⟩ c14 (L2.defBody s14) = true := by decide +kernel
theorem ok15 : okSs T15 n15 ⟨L2.defScope s15, L2.defScope s15⟩ c15 (L2.defBody s15) = true := by decide +kernel
theorem ok16 : okSs T16 n16 ⟨L2.defScope s16, L2.defScope s16⟩ c16 (L2.defBody s16) = true := by decide +kernel
theorem ok17 : okSs T17 n17 ⟨L2.defScope s17, L2.defScope s17⟩ c17 (L2.defBody s17) = true := by decide +kernel
end Law_k36

namespace Law_k36
open PySem PySem.Spec PyProof.Rows L2 DL
/-! ### plain -/
def gI (gs : List Int) (i : Int) : Int := gs.getD i.toNat 0
theorem at_g {gs : List Int} {i : Int} (h0 : 0 ≤ i) (h1 : i < gs.length) : atI (gs.map D.int) i = some (.int (gI gs i)) := by
  refine atI_nat' h0 ?_
  have : i.toNat < gs.length := by omega
  rw [List.getElem?_map, List.getElem?_eq_getElem this]
  simp [gI, List.getD_eq_getElem?_getD, List.getElem?_eq_getElem this]
theorem at_m1 {gs : List Int} (h : 0 < gs.length) : atI (gs.map D.int) (-1) = some (.int (gI gs (gs.length - 1))) := by
  have := at_g (gs := gs) (i := gs.length - 1) (by omega) (by omega)
  unfold atI at this ⊢
  unfold ixN at this ⊢
  rw [List.length_map] at this ⊢
  rw [if_pos (by omega), if_pos (by omega)] at this
  rw [if_neg (by omega), if_pos (by omega)]
  rw [← this]
  congr 1
def pcW (gs : List Int) (t : Int) : Int := if 0 < t then gI gs t - gI gs (t - 1) else 0
def ltW (gs : List Int) (t : Int) : Int := if t + 1 < gs.length then gI gs (t + 1) - gI gs t else 0
theorem gI_bd {gs : List Int} {B : Int} (hB : 0 ≤ B) (h : ∀ x ∈ gs, -B ≤ x ∧ x ≤ B) (i : Int) : -B ≤ gI gs i ∧ gI gs i ≤ B := by
  unfold gI
  rw [List.getD_eq_getElem?_getD]
  cases e : gs[i.toNat]? with
  | none => simp; omega
  | some x => exact h x (List.mem_of_getElem? e)
theorem W_bd {gs : List Int} {B : Int} (hB : 0 ≤ B) (h : ∀ x ∈ gs, -B ≤ x ∧ x ≤ B) (t : Int) : (-(2 * B) ≤ pcW gs t ∧ pcW gs t ≤ 2 * B) ∧ (-(2 * B) ≤ ltW gs t ∧ ltW gs t ≤ 2 * B) := by
  have h1 := gI_bd hB h t
  have h2 := gI_bd hB h (t - 1)
  have h3 := gI_bd hB h (t + 1)
  unfold pcW ltW
  constructor <;> split <;> omega
/-- the row with its ends twice -/
def row (gs : List Int) : List Int := gI gs 0 :: (gs ++ [gI gs (gs.length - 1)])
theorem row_len (gs : List Int) : (row gs).length = gs.length + 2 := by simp [row]
theorem row_mid {gs : List Int} {t : Int} (h0 : 0 ≤ t) (h1 : t < gs.length) : gI (row gs) (t + 1) = gI gs t := by
  unfold gI row
  rw [show (t + 1).toNat = t.toNat + 1 by omega, List.getD_cons_succ, List.getD_eq_getElem?_getD, List.getElem?_append_left (by omega), List.getD_eq_getElem?_getD]
theorem row_lo {gs : List Int} {t : Int} (h0 : 0 ≤ t) (h1 : t < gs.length) : gI (row gs) t = if 0 < t then gI gs (t - 1) else gI gs 0 := by
  split
  · have := row_mid (gs := gs) (t := t - 1) (by omega) (by omega)
    rw [← this]; congr 1; omega
  · have : t = 0 := by omega
    subst this; rfl
theorem row_hi {gs : List Int} {t : Int} (h0 : 0 ≤ t) (h1 : t < gs.length) : gI (row gs) (t + 2) = if t + 1 < gs.length then gI gs (t + 1) else gI gs t := by
  split
  · have := row_mid (gs := gs) (t := t + 1) (by omega) (by omega)
    rw [← this]; congr 1; omega
  · have e : (t + 2).toNat = (gs.length + 1) := by omega
    unfold gI row
    rw [e, List.getD_cons_succ, List.getD_eq_getElem?_getD, List.getElem?_append_right (by omega)]
    have : t.toNat = ((gs.length : Int) - 1).toNat := by omega
    simp [gI, this]
theorem ne_same {S : DStore} {x : D} {p : PyData} {QB : Bool → Prop} (hx : ∀ i, x ≠ .int i) (hb : ∀ i, x ≠ .bl i) (hst : ∀ i, x ≠ .str i) (e : purS S x = some p) (sh : SeqAt.shaped p = true) (q : QB false) : cmpD .NotEq S x x QB :=
  eq_same (QB := fun b => QB (!b)) hx hb hst e sh q
/-! ### promises -/
structure Ar (a b f bits X V P y y0 : Int) : Prop where
  h : DL.HOk a b f bits
  a1 : -4096 ≤ a
  a2 : a ≤ 4096
  b1 : -4096 ≤ b
  b2 : b ≤ 4096
  x1 : -2000000 ≤ X
  x2 : X ≤ 2000000
  v1 : -1000 ≤ V
  v2 : V ≤ 1000
  p1 : -1000 ≤ P
  p2 : P ≤ 1000
  y1 : -2000000 ≤ y
  y2 : y ≤ 2000000
  z1 : -2000000 ≤ y0
  z2 : y0 ≤ 2000000
def numE (a b f X V P y y0 : Int) : Int := P * pw2 f - smH a b X V y y0
def sp3 := spHd fun a b f bits X V P y y0 => .tup [.int (numE a b f X V P y y0 / (Int.gcd (numE a b f X V P y y0) (pw2 f) : Nat)), .int (pw2 f / (Int.gcd (numE a b f X V P y y0) (pw2 f) : Nat))]
def spW (ds : List D) (S : DStore) (Q : QE) : Prop := ∃ (gs : List Int) (t : Int), ds = [.tup (gs.map D.int), .int t] ∧ 0 ≤ t ∧ t < gs.length ∧ gs.length ≤ 100 ∧ Q (wshD (gI gs t) (pcW gs t) (ltW gs t - pcW gs t)) S
def sp10 (ds : List D) (S : DStore) (Q : QE) : Prop := ∃ n g m t, ds = [.ref n] ∧ S[n]? = some (potC g m t) ∧ POk g m t ∧ t < 1000000 ∧ ∀ (a b f bits g' t' : Int) S', DL.HOk a b f bits → -4096 ≤ a → a ≤ 4096 → -4096 ≤ b → b ≤ 4096 → POk g' m t' → t' ≤ t + 6 → S'[n]? = some (potC g' m t') → Q (hndD a b f bits) S'
def sp12 (ds : List D) (S : DStore) (Q : QE) : Prop := ∃ n d : Int, ds = [.int n, .int d] ∧ 0 < d ∧ d < 1000000 ∧ Q (.tup [.int (n / (Int.gcd n d : Nat)), .int (d / (Int.gcd n d : Nat))]) S
def sp13 (ds : List D) (S : DStore) (Q : QE) : Prop := ∃ n g m t, ds = [.ref n, .int 9] ∧ S[n]? = some (potC g m t) ∧ POk g m t ∧ t < 1000000 ∧ ∀ (gs : List Int) g' t' S', 2 ≤ gs.length → gs.length ≤ 10 → (∀ x ∈ gs, -110 ≤ x ∧ x ≤ 110) → POk g' m t' → t' ≤ t + 12 → S'[n]? = some (potC g' m t') → Q (.tup (gs.map D.int)) S'
def sp15 (ds : List D) (S : DStore) (Q : QE) : Prop := ∃ n d : Int, ds = [.tup [.int (n / (Int.gcd n d : Nat)), .int (d / (Int.gcd n d : Nat))], .int n, .int d] ∧ 0 < d ∧ d < 1000000 ∧ -100000000000 ≤ n ∧ n ≤ 100000000000 ∧ Q (.bl true) S
def sp16 (ds : List D) (S : DStore) (Q : QE) : Prop := ∃ a b f bits X V P y y0, ds = [hndD a b f bits, wshD X V P, .int y, .int y0] ∧ Ar a b f bits X V P y y0 ∧ Q (.bl true) S
def G : Fns := ⟨fun j => match j with
  | 0 => spCommon | 1 => spMade | 2 => spParted | 3 => sp3 | 4 => spNumbers | 5 => spPushed | 6 => spW | 7 => spHand | 8 => spTake | 9 => spPick | 10 => sp10 | 11 => spCommon | 12 => sp12 | 13 => sp13 | 14 => spW | 15 => sp15 | 16 => sp16 | _ => spLaw, fun _ => .non⟩
theorem G0 : G.fn 0 = spCommon := rfl
theorem G1 : G.fn 1 = spMade := rfl
theorem G2 : G.fn 2 = spParted := rfl
theorem G3 : G.fn 3 = sp3 := rfl
theorem G4 : G.fn 4 = spNumbers := rfl
theorem G5 : G.fn 5 = spPushed := rfl
theorem G6 : G.fn 6 = spW := rfl
theorem G7 : G.fn 7 = spHand := rfl
theorem G8 : G.fn 8 = spTake := rfl
theorem G9 : G.fn 9 = spPick := rfl
theorem G10 : G.fn 10 = sp10 := rfl
theorem G11 : G.fn 11 = spCommon := rfl
theorem G12 : G.fn 12 = sp12 := rfl
theorem G13 : G.fn 13 = sp13 := rfl
theorem G14 : G.fn 14 = spW := rfl
theorem G15 : G.fn 15 = sp15 := rfl
theorem G16 : G.fn 16 = sp16 := rfl
theorem spW_len : ∀ ds S Q, spW ds S Q → ds.length = 2 := by rintro _ _ _ ⟨_, _, rfl, _⟩; rfl
theorem len0 : ∀ ds S Q, G.fn 0 ds S Q → ds.length = p0.length := spCommon_len
theorem len1 : ∀ ds S Q, G.fn 1 ds S Q → ds.length = p1.length := spMade_len
theorem len2 : ∀ ds S Q, G.fn 2 ds S Q → ds.length = p2.length := spHd_len
theorem len3 : ∀ ds S Q, G.fn 3 ds S Q → ds.length = p3.length := spHd_len
theorem len4 : ∀ ds S Q, G.fn 4 ds S Q → ds.length = p4.length := spHd_len
theorem len5 : ∀ ds S Q, G.fn 5 ds S Q → ds.length = p5.length := spHd_len
theorem len6 : ∀ ds S Q, G.fn 6 ds S Q → ds.length = p6.length := spW_len
theorem len7 : ∀ ds S Q, G.fn 7 ds S Q → ds.length = p7.length := spHand_len
theorem len8 : ∀ ds S Q, G.fn 8 ds S Q → ds.length = p8.length := spTake_len
theorem len9 : ∀ ds S Q, G.fn 9 ds S Q → ds.length = p9.length := spPick_len
theorem len10 : ∀ ds S Q, G.fn 10 ds S Q → ds.length = p10.length := by rintro _ _ _ ⟨_, _, _, _, rfl, _⟩; rfl
theorem len11 : ∀ ds S Q, G.fn 11 ds S Q → ds.length = p11.length := spCommon_len
theorem len12 : ∀ ds S Q, G.fn 12 ds S Q → ds.length = p12.length := by rintro _ _ _ ⟨_, _, rfl, _⟩; rfl
theorem len13 : ∀ ds S Q, G.fn 13 ds S Q → ds.length = p13.length := by rintro _ _ _ ⟨_, _, _, _, rfl, _⟩; rfl
theorem len14 : ∀ ds S Q, G.fn 14 ds S Q → ds.length = p14.length := spW_len
theorem len15 : ∀ ds S Q, G.fn 15 ds S Q → ds.length = p15.length := by rintro _ _ _ ⟨_, _, rfl, _⟩; rfl
theorem len16 : ∀ ds S Q, G.fn 16 ds S Q → ds.length = p16.length := by rintro _ _ _ ⟨_, _, _, _, _, _, _, _, _, rfl, _⟩; rfl
theorem len17 : ∀ ds S Q, spLaw ds S Q → ds.length = p17.length := by rintro _ _ _ ⟨_, rfl, _⟩; rfl
theorem body0 : ∀ ds S Q, G.fn 0 ds S Q → wpSs G c0 (startD n0.length ds) S { nx := fun _ S' => Q .non S', rt := Q } := common_ok
theorem body1 : ∀ ds S Q, G.fn 1 ds S Q → wpSs G c1 (startD n1.length ds) S { nx := fun _ S' => Q .non S', rt := Q } := made_ok G0
theorem body2 : ∀ ds S Q, G.fn 2 ds S Q → wpSs G c2 (startD n2.length ds) S { nx := fun _ S' => Q .non S', rt := Q } := parted_ok
theorem body4 : ∀ ds S Q, G.fn 4 ds S Q → wpSs G c4 (startD n4.length ds) S { nx := fun _ S' => Q .non S', rt := Q } := numbers_ok G2
theorem body5 : ∀ ds S Q, G.fn 5 ds S Q → wpSs G c5 (startD n5.length ds) S { nx := fun _ S' => Q .non S', rt := Q } := pushed_ok G4
theorem body7 : ∀ ds S Q, G.fn 7 ds S Q → wpSs G c7 (startD n7.length ds) S { nx := fun _ S' => Q .non S', rt := Q } := hand_ok
theorem body8 : ∀ ds S Q, G.fn 8 ds S Q → wpSs G c8 (startD n8.length ds) S { nx := fun _ S' => Q .non S', rt := Q } := take_ok
theorem body9 : ∀ ds S Q, G.fn 9 ds S Q → wpSs G c9 (startD n9.length ds) S { nx := fun _ S' => Q .non S', rt := Q } := pick_ok G8
theorem body11 : ∀ ds S Q, G.fn 11 ds S Q → wpSs G c11 (startD n11.length ds) S { nx := fun _ S' => Q .non S', rt := Q } := common_ok
theorem body3 : ∀ ds S Q, G.fn 3 ds S Q → wpSs G c3 (startD n3.length ds) S { nx := fun _ S' => Q .non S', rt := Q } := by
  rintro ds S Q ⟨a, b, f, bits, X, V, P, y, y0, rfl, h, hQ⟩
  have := h.f1; have := h.f2
  have hp := pw2_pos f
  have hp2 := pw2_le (f := f) (k := 8) (by omega)
  unfold c3 n3 hndD wshD
  simp only [DL.e_var, DL.e_con, DL.e_glo, DL.e_bin, DL.e_neg, DL.e_cmp, DL.e_chain, DL.e_and, DL.e_or, DL.e_not, DL.e_ite, DL.e_tup, DL.e_lst, DL.e_ix, DL.e_sl, DL.e_call, DL.e_callK, DL.e_bi, DL.e_isi, DL.e_lc, DL.es_nil, DL.es_cons, DL.o_no, DL.o_yes, DL.b_and, DL.b_or, DL.b_not, DL.b_cmp, DL.b_chain, DL.b_val, DL.bs_nil, DL.bs_cons, DL.g_name, DL.g_tup, DL.g_sub, DL.gs_nil, DL.gs_cons, DL.i_seq, DL.i_range1, DL.i_range2, DL.i_range3, DL.i_enum, DL.i_zip, DL.s_nil, DL.s_cons, DL.s_expr, DL.s_ret, DL.s_retN, DL.s_pass, DL.s_brk, DL.s_cont, DL.s_asg, DL.s_par2, DL.s_par3, DL.s_setLc, DL.s_augA, DL.s_augS, DL.s_append, DL.s_if, DL.s_while, DL.s_for, DL.o_add, DL.o_addT, DL.o_addL, DL.o_sub, DL.o_mul, DL.o_mulL, DL.o_fdiv, DL.o_mod, DL.o_pow, DL.o_shl, DL.o_shr, DL.q_lt, DL.q_le, DL.q_gt, DL.q_ge, DL.q_eqI, DL.q_neI, DL.q_eqS, DL.q_neS, DL.q_eqB, DL.q_neB, DL.q_isN, DL.q_notN, DL.q_isB, DL.q_notB, DL.t_bl, DL.t_int, DL.x_tup, DL.x_lst, DL.x_scr, DL.x_ref, DL.c_some, DL.n_f, DL.n_t, DL.f_lenT, DL.f_lenL, DL.f_lenC, DL.f_lenR, DL.f_abs, DL.f_min, DL.f_max, DL.f_intI, DL.f_intB, DL.f_tupT, DL.f_tupL, DL.f_tupR, DL.f_lstT, DL.f_lstL, DL.y_int, DL.y_bl, DL.y_str, DL.y_non, DL.y_tup, DL.y_lst, DL.z_tup, DL.z_lst, DL.z_enum, DL.isiD, DL.t_tup, DL.t_lst, DL.a_0, DL.a_1, DL.a_2, DL.a_3, DL.a_4, DL.a_5, DL.a_6, DL.ex_some, DL.ex_env, DL.ex_int, DL.ex_bl, DL.ex_ref, DL.ex_tup, DL.ex_int2, DL.ex_sub, DL.ex_cell, DL.ix_30, DL.ix_31, DL.ix_32, DL.CC.d, DL.startD, DL.wipeD, DL.i2, List.map_cons, List.map_nil, List.length_cons, List.length_nil, List.replicate, List.cons_append, List.nil_append, List.getElem?_cons_zero, List.getElem?_cons_succ, List.set_cons_zero, List.set_cons_succ, Nat.zero_add, Nat.reduceAdd, Nat.reduceSub, decide_eq_true_eq, Bool.not_eq_true', decide_eq_false_iff_not, if_true, Bool.false_eq_true, if_false, ite_true, ite_false, List.getD_cons_zero, List.getD_cons_succ, eq_self, not_true_eq_false, not_false_eq_true, Bool.true_eq_false, Bool.not_true, Bool.not_false, G2, G1, pw2_one]
  refine ⟨cpow1 (by omega) (by omega), mul_small_right (by omega) (by omega), a, b, f, bits, X, V, P, y, y0, rfl, h, ?_⟩
  simp only [DL.e_var, DL.e_con, DL.e_glo, DL.e_bin, DL.e_neg, DL.e_cmp, DL.e_chain, DL.e_and, DL.e_or, DL.e_not, DL.e_ite, DL.e_tup, DL.e_lst, DL.e_ix, DL.e_sl, DL.e_call, DL.e_callK, DL.e_bi, DL.e_isi, DL.e_lc, DL.es_nil, DL.es_cons, DL.o_no, DL.o_yes, DL.b_and, DL.b_or, DL.b_not, DL.b_cmp, DL.b_chain, DL.b_val, DL.bs_nil, DL.bs_cons, DL.g_name, DL.g_tup, DL.g_sub, DL.gs_nil, DL.gs_cons, DL.i_seq, DL.i_range1, DL.i_range2, DL.i_range3, DL.i_enum, DL.i_zip, DL.s_nil, DL.s_cons, DL.s_expr, DL.s_ret, DL.s_retN, DL.s_pass, DL.s_brk, DL.s_cont, DL.s_asg, DL.s_par2, DL.s_par3, DL.s_setLc, DL.s_augA, DL.s_augS, DL.s_append, DL.s_if, DL.s_while, DL.s_for, DL.o_add, DL.o_addT, DL.o_addL, DL.o_sub, DL.o_mul, DL.o_mulL, DL.o_fdiv, DL.o_mod, DL.o_pow, DL.o_shl, DL.o_shr, DL.q_lt, DL.q_le, DL.q_gt, DL.q_ge, DL.q_eqI, DL.q_neI, DL.q_eqS, DL.q_neS, DL.q_eqB, DL.q_neB, DL.q_isN, DL.q_notN, DL.q_isB, DL.q_notB, DL.t_bl, DL.t_int, DL.x_tup, DL.x_lst, DL.x_scr, DL.x_ref, DL.c_some, DL.n_f, DL.n_t, DL.f_lenT, DL.f_lenL, DL.f_lenC, DL.f_lenR, DL.f_abs, DL.f_min, DL.f_max, DL.f_intI, DL.f_intB, DL.f_tupT, DL.f_tupL, DL.f_tupR, DL.f_lstT, DL.f_lstL, DL.y_int, DL.y_bl, DL.y_str, DL.y_non, DL.y_tup, DL.y_lst, DL.z_tup, DL.z_lst, DL.z_enum, DL.isiD, DL.t_tup, DL.t_lst, DL.a_0, DL.a_1, DL.a_2, DL.a_3, DL.a_4, DL.a_5, DL.a_6, DL.ex_some, DL.ex_env, DL.ex_int, DL.ex_bl, DL.ex_ref, DL.ex_tup, DL.ex_int2, DL.ex_sub, DL.ex_cell, DL.ix_30, DL.ix_31, DL.ix_32, DL.CC.d, DL.startD, DL.wipeD, DL.i2, List.map_cons, List.map_nil, List.length_cons, List.length_nil, List.replicate, List.cons_append, List.nil_append, List.getElem?_cons_zero, List.getElem?_cons_succ, List.set_cons_zero, List.set_cons_succ, Nat.zero_add, Nat.reduceAdd, Nat.reduceSub, decide_eq_true_eq, Bool.not_eq_true', decide_eq_false_iff_not, if_true, Bool.false_eq_true, if_false, ite_true, ite_false, List.getD_cons_zero, List.getD_cons_succ, eq_self, not_true_eq_false, not_false_eq_true, Bool.true_eq_false, Bool.not_true, Bool.not_false]
  refine ⟨_, _, rfl, by omega, Int.lt_of_le_of_lt hp2 ?_, hQ⟩
  exact Int.lt_of_lt_of_le (show (2 ^ 8 : Int) < 2 ^ 9 by decide) (by
    have : (2 : Nat) ^ 9 ≤ 2 ^ 8000 := Nat.pow_le_pow_right (by decide) (by decide)
    exact_mod_cast this)
theorem body6 : ∀ ds S Q, G.fn 6 ds S Q → wpSs G c6 (startD n6.length ds) S { nx := fun _ S' => Q .non S', rt := Q } := by
  rintro ds S Q ⟨gs, t, rfl, h0, h1, hl, hQ⟩
  unfold c6 n6
  have e0 := at_g h0 h1
  simp only [DL.e_var, DL.e_con, DL.e_glo, DL.e_bin, DL.e_neg, DL.e_cmp, DL.e_chain, DL.e_and, DL.e_or, DL.e_not, DL.e_ite, DL.e_tup, DL.e_lst, DL.e_ix, DL.e_sl, DL.e_call, DL.e_callK, DL.e_bi, DL.e_isi, DL.e_lc, DL.es_nil, DL.es_cons, DL.o_no, DL.o_yes, DL.b_and, DL.b_or, DL.b_not, DL.b_cmp, DL.b_chain, DL.b_val, DL.bs_nil, DL.bs_cons, DL.g_name, DL.g_tup, DL.g_sub, DL.gs_nil, DL.gs_cons, DL.i_seq, DL.i_range1, DL.i_range2, DL.i_range3, DL.i_enum, DL.i_zip, DL.s_nil, DL.s_cons, DL.s_expr, DL.s_ret, DL.s_retN, DL.s_pass, DL.s_brk, DL.s_cont, DL.s_asg, DL.s_par2, DL.s_par3, DL.s_setLc, DL.s_augA, DL.s_augS, DL.s_append, DL.s_if, DL.s_while, DL.s_for, DL.o_add, DL.o_addT, DL.o_addL, DL.o_sub, DL.o_mul, DL.o_mulL, DL.o_fdiv, DL.o_mod, DL.o_pow, DL.o_shl, DL.o_shr, DL.q_lt, DL.q_le, DL.q_gt, DL.q_ge, DL.q_eqI, DL.q_neI, DL.q_eqS, DL.q_neS, DL.q_eqB, DL.q_neB, DL.q_isN, DL.q_notN, DL.q_isB, DL.q_notB, DL.t_bl, DL.t_int, DL.x_tup, DL.x_lst, DL.x_scr, DL.x_ref, DL.c_some, DL.n_f, DL.n_t, DL.f_lenT, DL.f_lenL, DL.f_lenC, DL.f_lenR, DL.f_abs, DL.f_min, DL.f_max, DL.f_intI, DL.f_intB, DL.f_tupT, DL.f_tupL, DL.f_tupR, DL.f_lstT, DL.f_lstL, DL.y_int, DL.y_bl, DL.y_str, DL.y_non, DL.y_tup, DL.y_lst, DL.z_tup, DL.z_lst, DL.z_enum, DL.isiD, DL.t_tup, DL.t_lst, DL.a_0, DL.a_1, DL.a_2, DL.a_3, DL.a_4, DL.a_5, DL.a_6, DL.ex_some, DL.ex_env, DL.ex_int, DL.ex_bl, DL.ex_ref, DL.ex_tup, DL.ex_int2, DL.ex_sub, DL.ex_cell, DL.ix_30, DL.ix_31, DL.ix_32, DL.CC.d, DL.startD, DL.wipeD, DL.i2, List.map_cons, List.map_nil, List.length_cons, List.length_nil, List.replicate, List.cons_append, List.nil_append, List.getElem?_cons_zero, List.getElem?_cons_succ, List.set_cons_zero, List.set_cons_succ, Nat.zero_add, Nat.reduceAdd, Nat.reduceSub, decide_eq_true_eq, Bool.not_eq_true', decide_eq_false_iff_not, if_true, Bool.false_eq_true, if_false, ite_true, ite_false, List.getD_cons_zero, List.getD_cons_succ, eq_self, not_true_eq_false, not_false_eq_true, Bool.true_eq_false, Bool.not_true, Bool.not_false, e0, List.length_map]
  refine if_i (fun hp => ?_) fun hp => ?_
  · have e1 := at_g (gs := gs) (i := t - 1) (by omega) (by omega)
    (try simp only [DL.e_var, DL.e_con, DL.e_glo, DL.e_bin, DL.e_neg, DL.e_cmp, DL.e_chain, DL.e_and, DL.e_or, DL.e_not, DL.e_ite, DL.e_tup, DL.e_lst, DL.e_ix, DL.e_sl, DL.e_call, DL.e_callK, DL.e_bi, DL.e_isi, DL.e_lc, DL.es_nil, DL.es_cons, DL.o_no, DL.o_yes, DL.b_and, DL.b_or, DL.b_not, DL.b_cmp, DL.b_chain, DL.b_val, DL.bs_nil, DL.bs_cons, DL.g_name, DL.g_tup, DL.g_sub, DL.gs_nil, DL.gs_cons, DL.i_seq, DL.i_range1, DL.i_range2, DL.i_range3, DL.i_enum, DL.i_zip, DL.s_nil, DL.s_cons, DL.s_expr, DL.s_ret, DL.s_retN, DL.s_pass, DL.s_brk, DL.s_cont, DL.s_asg, DL.s_par2, DL.s_par3, DL.s_setLc, DL.s_augA, DL.s_augS, DL.s_append, DL.s_if, DL.s_while, DL.s_for, DL.o_add, DL.o_addT, DL.o_addL, DL.o_sub, DL.o_mul, DL.o_mulL, DL.o_fdiv, DL.o_mod, DL.o_pow, DL.o_shl, DL.o_shr, DL.q_lt, DL.q_le, DL.q_gt, DL.q_ge, DL.q_eqI, DL.q_neI, DL.q_eqS, DL.q_neS, DL.q_eqB, DL.q_neB, DL.q_isN, DL.q_notN, DL.q_isB, DL.q_notB, DL.t_bl, DL.t_int, DL.x_tup, DL.x_lst, DL.x_scr, DL.x_ref, DL.c_some, DL.n_f, DL.n_t, DL.f_lenT, DL.f_lenL, DL.f_lenC, DL.f_lenR, DL.f_abs, DL.f_min, DL.f_max, DL.f_intI, DL.f_intB, DL.f_tupT, DL.f_tupL, DL.f_tupR, DL.f_lstT, DL.f_lstL, DL.y_int, DL.y_bl, DL.y_str, DL.y_non, DL.y_tup, DL.y_lst, DL.z_tup, DL.z_lst, DL.z_enum, DL.isiD, DL.t_tup, DL.t_lst, DL.a_0, DL.a_1, DL.a_2, DL.a_3, DL.a_4, DL.a_5, DL.a_6, DL.ex_some, DL.ex_env, DL.ex_int, DL.ex_bl, DL.ex_ref, DL.ex_tup, DL.ex_int2, DL.ex_sub, DL.ex_cell, DL.ix_30, DL.ix_31, DL.ix_32, DL.CC.d, DL.startD, DL.wipeD, DL.i2, List.map_cons, List.map_nil, List.length_cons, List.length_nil, List.replicate, List.cons_append, List.nil_append, List.getElem?_cons_zero, List.getElem?_cons_succ, List.set_cons_zero, List.set_cons_succ, Nat.zero_add, Nat.reduceAdd, Nat.reduceSub, decide_eq_true_eq, Bool.not_eq_true', decide_eq_false_iff_not, if_true, Bool.false_eq_true, if_false, ite_true, ite_false, List.getD_cons_zero, List.getD_cons_succ, eq_self, not_true_eq_false, not_false_eq_true, Bool.true_eq_false, Bool.not_true, Bool.not_false, e1, List.length_map])
    refine if_i (fun hq => ?_) fun hq => ?_
    · have e2 := at_g (gs := gs) (i := t + 1) (by omega) (by omega)
      (try simp only [DL.e_var, DL.e_con, DL.e_glo, DL.e_bin, DL.e_neg, DL.e_cmp, DL.e_chain, DL.e_and, DL.e_or, DL.e_not, DL.e_ite, DL.e_tup, DL.e_lst, DL.e_ix, DL.e_sl, DL.e_call, DL.e_callK, DL.e_bi, DL.e_isi, DL.e_lc, DL.es_nil, DL.es_cons, DL.o_no, DL.o_yes, DL.b_and, DL.b_or, DL.b_not, DL.b_cmp, DL.b_chain, DL.b_val, DL.bs_nil, DL.bs_cons, DL.g_name, DL.g_tup, DL.g_sub, DL.gs_nil, DL.gs_cons, DL.i_seq, DL.i_range1, DL.i_range2, DL.i_range3, DL.i_enum, DL.i_zip, DL.s_nil, DL.s_cons, DL.s_expr, DL.s_ret, DL.s_retN, DL.s_pass, DL.s_brk, DL.s_cont, DL.s_asg, DL.s_par2, DL.s_par3, DL.s_setLc, DL.s_augA, DL.s_augS, DL.s_append, DL.s_if, DL.s_while, DL.s_for, DL.o_add, DL.o_addT, DL.o_addL, DL.o_sub, DL.o_mul, DL.o_mulL, DL.o_fdiv, DL.o_mod, DL.o_pow, DL.o_shl, DL.o_shr, DL.q_lt, DL.q_le, DL.q_gt, DL.q_ge, DL.q_eqI, DL.q_neI, DL.q_eqS, DL.q_neS, DL.q_eqB, DL.q_neB, DL.q_isN, DL.q_notN, DL.q_isB, DL.q_notB, DL.t_bl, DL.t_int, DL.x_tup, DL.x_lst, DL.x_scr, DL.x_ref, DL.c_some, DL.n_f, DL.n_t, DL.f_lenT, DL.f_lenL, DL.f_lenC, DL.f_lenR, DL.f_abs, DL.f_min, DL.f_max, DL.f_intI, DL.f_intB, DL.f_tupT, DL.f_tupL, DL.f_tupR, DL.f_lstT, DL.f_lstL, DL.y_int, DL.y_bl, DL.y_str, DL.y_non, DL.y_tup, DL.y_lst, DL.z_tup, DL.z_lst, DL.z_enum, DL.isiD, DL.t_tup, DL.t_lst, DL.a_0, DL.a_1, DL.a_2, DL.a_3, DL.a_4, DL.a_5, DL.a_6, DL.ex_some, DL.ex_env, DL.ex_int, DL.ex_bl, DL.ex_ref, DL.ex_tup, DL.ex_int2, DL.ex_sub, DL.ex_cell, DL.ix_30, DL.ix_31, DL.ix_32, DL.CC.d, DL.startD, DL.wipeD, DL.i2, List.map_cons, List.map_nil, List.length_cons, List.length_nil, List.replicate, List.cons_append, List.nil_append, List.getElem?_cons_zero, List.getElem?_cons_succ, List.set_cons_zero, List.set_cons_succ, Nat.zero_add, Nat.reduceAdd, Nat.reduceSub, decide_eq_true_eq, Bool.not_eq_true', decide_eq_false_iff_not, if_true, Bool.false_eq_true, if_false, ite_true, ite_false, List.getD_cons_zero, List.getD_cons_succ, eq_self, not_true_eq_false, not_false_eq_true, Bool.true_eq_false, Bool.not_true, Bool.not_false, e2, e0])
      rw [pcW, ltW, if_pos hp, if_pos hq] at hQ; exact hQ
    · (try simp only [DL.e_var, DL.e_con, DL.e_glo, DL.e_bin, DL.e_neg, DL.e_cmp, DL.e_chain, DL.e_and, DL.e_or, DL.e_not, DL.e_ite, DL.e_tup, DL.e_lst, DL.e_ix, DL.e_sl, DL.e_call, DL.e_callK, DL.e_bi, DL.e_isi, DL.e_lc, DL.es_nil, DL.es_cons, DL.o_no, DL.o_yes, DL.b_and, DL.b_or, DL.b_not, DL.b_cmp, DL.b_chain, DL.b_val, DL.bs_nil, DL.bs_cons, DL.g_name, DL.g_tup, DL.g_sub, DL.gs_nil, DL.gs_cons, DL.i_seq, DL.i_range1, DL.i_range2, DL.i_range3, DL.i_enum, DL.i_zip, DL.s_nil, DL.s_cons, DL.s_expr, DL.s_ret, DL.s_retN, DL.s_pass, DL.s_brk, DL.s_cont, DL.s_asg, DL.s_par2, DL.s_par3, DL.s_setLc, DL.s_augA, DL.s_augS, DL.s_append, DL.s_if, DL.s_while, DL.s_for, DL.o_add, DL.o_addT, DL.o_addL, DL.o_sub, DL.o_mul, DL.o_mulL, DL.o_fdiv, DL.o_mod, DL.o_pow, DL.o_shl, DL.o_shr, DL.q_lt, DL.q_le, DL.q_gt, DL.q_ge, DL.q_eqI, DL.q_neI, DL.q_eqS, DL.q_neS, DL.q_eqB, DL.q_neB, DL.q_isN, DL.q_notN, DL.q_isB, DL.q_notB, DL.t_bl, DL.t_int, DL.x_tup, DL.x_lst, DL.x_scr, DL.x_ref, DL.c_some, DL.n_f, DL.n_t, DL.f_lenT, DL.f_lenL, DL.f_lenC, DL.f_lenR, DL.f_abs, DL.f_min, DL.f_max, DL.f_intI, DL.f_intB, DL.f_tupT, DL.f_tupL, DL.f_tupR, DL.f_lstT, DL.f_lstL, DL.y_int, DL.y_bl, DL.y_str, DL.y_non, DL.y_tup, DL.y_lst, DL.z_tup, DL.z_lst, DL.z_enum, DL.isiD, DL.t_tup, DL.t_lst, DL.a_0, DL.a_1, DL.a_2, DL.a_3, DL.a_4, DL.a_5, DL.a_6, DL.ex_some, DL.ex_env, DL.ex_int, DL.ex_bl, DL.ex_ref, DL.ex_tup, DL.ex_int2, DL.ex_sub, DL.ex_cell, DL.ix_30, DL.ix_31, DL.ix_32, DL.CC.d, DL.startD, DL.wipeD, DL.i2, List.map_cons, List.map_nil, List.length_cons, List.length_nil, List.replicate, List.cons_append, List.nil_append, List.getElem?_cons_zero, List.getElem?_cons_succ, List.set_cons_zero, List.set_cons_succ, Nat.zero_add, Nat.reduceAdd, Nat.reduceSub, decide_eq_true_eq, Bool.not_eq_true', decide_eq_false_iff_not, if_true, Bool.false_eq_true, if_false, ite_true, ite_false, List.getD_cons_zero, List.getD_cons_succ, eq_self, not_true_eq_false, not_false_eq_true, Bool.true_eq_false, Bool.not_true, Bool.not_false, e0])
      rw [pcW, ltW, if_pos hp, if_neg hq] at hQ; exact hQ
  · (try simp only [DL.e_var, DL.e_con, DL.e_glo, DL.e_bin, DL.e_neg, DL.e_cmp, DL.e_chain, DL.e_and, DL.e_or, DL.e_not, DL.e_ite, DL.e_tup, DL.e_lst, DL.e_ix, DL.e_sl, DL.e_call, DL.e_callK, DL.e_bi, DL.e_isi, DL.e_lc, DL.es_nil, DL.es_cons, DL.o_no, DL.o_yes, DL.b_and, DL.b_or, DL.b_not, DL.b_cmp, DL.b_chain, DL.b_val, DL.bs_nil, DL.bs_cons, DL.g_name, DL.g_tup, DL.g_sub, DL.gs_nil, DL.gs_cons, DL.i_seq, DL.i_range1, DL.i_range2, DL.i_range3, DL.i_enum, DL.i_zip, DL.s_nil, DL.s_cons, DL.s_expr, DL.s_ret, DL.s_retN, DL.s_pass, DL.s_brk, DL.s_cont, DL.s_asg, DL.s_par2, DL.s_par3, DL.s_setLc, DL.s_augA, DL.s_augS, DL.s_append, DL.s_if, DL.s_while, DL.s_for, DL.o_add, DL.o_addT, DL.o_addL, DL.o_sub, DL.o_mul, DL.o_mulL, DL.o_fdiv, DL.o_mod, DL.o_pow, DL.o_shl, DL.o_shr, DL.q_lt, DL.q_le, DL.q_gt, DL.q_ge, DL.q_eqI, DL.q_neI, DL.q_eqS, DL.q_neS, DL.q_eqB, DL.q_neB, DL.q_isN, DL.q_notN, DL.q_isB, DL.q_notB, DL.t_bl, DL.t_int, DL.x_tup, DL.x_lst, DL.x_scr, DL.x_ref, DL.c_some, DL.n_f, DL.n_t, DL.f_lenT, DL.f_lenL, DL.f_lenC, DL.f_lenR, DL.f_abs, DL.f_min, DL.f_max, DL.f_intI, DL.f_intB, DL.f_tupT, DL.f_tupL, DL.f_tupR, DL.f_lstT, DL.f_lstL, DL.y_int, DL.y_bl, DL.y_str, DL.y_non, DL.y_tup, DL.y_lst, DL.z_tup, DL.z_lst, DL.z_enum, DL.isiD, DL.t_tup, DL.t_lst, DL.a_0, DL.a_1, DL.a_2, DL.a_3, DL.a_4, DL.a_5, DL.a_6, DL.ex_some, DL.ex_env, DL.ex_int, DL.ex_bl, DL.ex_ref, DL.ex_tup, DL.ex_int2, DL.ex_sub, DL.ex_cell, DL.ix_30, DL.ix_31, DL.ix_32, DL.CC.d, DL.startD, DL.wipeD, DL.i2, List.map_cons, List.map_nil, List.length_cons, List.length_nil, List.replicate, List.cons_append, List.nil_append, List.getElem?_cons_zero, List.getElem?_cons_succ, List.set_cons_zero, List.set_cons_succ, Nat.zero_add, Nat.reduceAdd, Nat.reduceSub, decide_eq_true_eq, Bool.not_eq_true', decide_eq_false_iff_not, if_true, Bool.false_eq_true, if_false, ite_true, ite_false, List.getD_cons_zero, List.getD_cons_succ, eq_self, not_true_eq_false, not_false_eq_true, Bool.true_eq_false, Bool.not_true, Bool.not_false, List.length_map])
    refine if_i (fun hq => ?_) fun hq => ?_
    · have e2 := at_g (gs := gs) (i := t + 1) (by omega) (by omega)
      (try simp only [DL.e_var, DL.e_con, DL.e_glo, DL.e_bin, DL.e_neg, DL.e_cmp, DL.e_chain, DL.e_and, DL.e_or, DL.e_not, DL.e_ite, DL.e_tup, DL.e_lst, DL.e_ix, DL.e_sl, DL.e_call, DL.e_callK, DL.e_bi, DL.e_isi, DL.e_lc, DL.es_nil, DL.es_cons, DL.o_no, DL.o_yes, DL.b_and, DL.b_or, DL.b_not, DL.b_cmp, DL.b_chain, DL.b_val, DL.bs_nil, DL.bs_cons, DL.g_name, DL.g_tup, DL.g_sub, DL.gs_nil, DL.gs_cons, DL.i_seq, DL.i_range1, DL.i_range2, DL.i_range3, DL.i_enum, DL.i_zip, DL.s_nil, DL.s_cons, DL.s_expr, DL.s_ret, DL.s_retN, DL.s_pass, DL.s_brk, DL.s_cont, DL.s_asg, DL.s_par2, DL.s_par3, DL.s_setLc, DL.s_augA, DL.s_augS, DL.s_append, DL.s_if, DL.s_while, DL.s_for, DL.o_add, DL.o_addT, DL.o_addL, DL.o_sub, DL.o_mul, DL.o_mulL, DL.o_fdiv, DL.o_mod, DL.o_pow, DL.o_shl, DL.o_shr, DL.q_lt, DL.q_le, DL.q_gt, DL.q_ge, DL.q_eqI, DL.q_neI, DL.q_eqS, DL.q_neS, DL.q_eqB, DL.q_neB, DL.q_isN, DL.q_notN, DL.q_isB, DL.q_notB, DL.t_bl, DL.t_int, DL.x_tup, DL.x_lst, DL.x_scr, DL.x_ref, DL.c_some, DL.n_f, DL.n_t, DL.f_lenT, DL.f_lenL, DL.f_lenC, DL.f_lenR, DL.f_abs, DL.f_min, DL.f_max, DL.f_intI, DL.f_intB, DL.f_tupT, DL.f_tupL, DL.f_tupR, DL.f_lstT, DL.f_lstL, DL.y_int, DL.y_bl, DL.y_str, DL.y_non, DL.y_tup, DL.y_lst, DL.z_tup, DL.z_lst, DL.z_enum, DL.isiD, DL.t_tup, DL.t_lst, DL.a_0, DL.a_1, DL.a_2, DL.a_3, DL.a_4, DL.a_5, DL.a_6, DL.ex_some, DL.ex_env, DL.ex_int, DL.ex_bl, DL.ex_ref, DL.ex_tup, DL.ex_int2, DL.ex_sub, DL.ex_cell, DL.ix_30, DL.ix_31, DL.ix_32, DL.CC.d, DL.startD, DL.wipeD, DL.i2, List.map_cons, List.map_nil, List.length_cons, List.length_nil, List.replicate, List.cons_append, List.nil_append, List.getElem?_cons_zero, List.getElem?_cons_succ, List.set_cons_zero, List.set_cons_succ, Nat.zero_add, Nat.reduceAdd, Nat.reduceSub, decide_eq_true_eq, Bool.not_eq_true', decide_eq_false_iff_not, if_true, Bool.false_eq_true, if_false, ite_true, ite_false, List.getD_cons_zero, List.getD_cons_succ, eq_self, not_true_eq_false, not_false_eq_true, Bool.true_eq_false, Bool.not_true, Bool.not_false, e2, e0])
      rw [pcW, ltW, if_neg hp, if_pos hq] at hQ; exact hQ
    · (try simp only [DL.e_var, DL.e_con, DL.e_glo, DL.e_bin, DL.e_neg, DL.e_cmp, DL.e_chain, DL.e_and, DL.e_or, DL.e_not, DL.e_ite, DL.e_tup, DL.e_lst, DL.e_ix, DL.e_sl, DL.e_call, DL.e_callK, DL.e_bi, DL.e_isi, DL.e_lc, DL.es_nil, DL.es_cons, DL.o_no, DL.o_yes, DL.b_and, DL.b_or, DL.b_not, DL.b_cmp, DL.b_chain, DL.b_val, DL.bs_nil, DL.bs_cons, DL.g_name, DL.g_tup, DL.g_sub, DL.gs_nil, DL.gs_cons, DL.i_seq, DL.i_range1, DL.i_range2, DL.i_range3, DL.i_enum, DL.i_zip, DL.s_nil, DL.s_cons, DL.s_expr, DL.s_ret, DL.s_retN, DL.s_pass, DL.s_brk, DL.s_cont, DL.s_asg, DL.s_par2, DL.s_par3, DL.s_setLc, DL.s_augA, DL.s_augS, DL.s_append, DL.s_if, DL.s_while, DL.s_for, DL.o_add, DL.o_addT, DL.o_addL, DL.o_sub, DL.o_mul, DL.o_mulL, DL.o_fdiv, DL.o_mod, DL.o_pow, DL.o_shl, DL.o_shr, DL.q_lt, DL.q_le, DL.q_gt, DL.q_ge, DL.q_eqI, DL.q_neI, DL.q_eqS, DL.q_neS, DL.q_eqB, DL.q_neB, DL.q_isN, DL.q_notN, DL.q_isB, DL.q_notB, DL.t_bl, DL.t_int, DL.x_tup, DL.x_lst, DL.x_scr, DL.x_ref, DL.c_some, DL.n_f, DL.n_t, DL.f_lenT, DL.f_lenL, DL.f_lenC, DL.f_lenR, DL.f_abs, DL.f_min, DL.f_max, DL.f_intI, DL.f_intB, DL.f_tupT, DL.f_tupL, DL.f_tupR, DL.f_lstT, DL.f_lstL, DL.y_int, DL.y_bl, DL.y_str, DL.y_non, DL.y_tup, DL.y_lst, DL.z_tup, DL.z_lst, DL.z_enum, DL.isiD, DL.t_tup, DL.t_lst, DL.a_0, DL.a_1, DL.a_2, DL.a_3, DL.a_4, DL.a_5, DL.a_6, DL.ex_some, DL.ex_env, DL.ex_int, DL.ex_bl, DL.ex_ref, DL.ex_tup, DL.ex_int2, DL.ex_sub, DL.ex_cell, DL.ix_30, DL.ix_31, DL.ix_32, DL.CC.d, DL.startD, DL.wipeD, DL.i2, List.map_cons, List.map_nil, List.length_cons, List.length_nil, List.replicate, List.cons_append, List.nil_append, List.getElem?_cons_zero, List.getElem?_cons_succ, List.set_cons_zero, List.set_cons_succ, Nat.zero_add, Nat.reduceAdd, Nat.reduceSub, decide_eq_true_eq, Bool.not_eq_true', decide_eq_false_iff_not, if_true, Bool.false_eq_true, if_false, ite_true, ite_false, List.getD_cons_zero, List.getD_cons_succ, eq_self, not_true_eq_false, not_false_eq_true, Bool.true_eq_false, Bool.not_true, Bool.not_false, e0])
      rw [pcW, ltW, if_neg hp, if_neg hq] at hQ; exact hQ
theorem body14 : ∀ ds S Q, G.fn 14 ds S Q → wpSs G c14 (startD n14.length ds) S { nx := fun _ S' => Q .non S', rt := Q } := by
  rintro ds S Q ⟨gs, t, rfl, h0, h1, hl, hQ⟩
  unfold c14 n14
  have e0 := at_g h0 h1
  have e1 := at_g (gs := gs) (i := 0) (by omega) (by omega)
  have e2 := at_m1 (gs := gs) (by omega)
  have er : (D.int (gI gs 0) :: (gs.map D.int ++ [D.int (gI gs (gs.length - 1))])) = (row gs).map D.int := by simp [row]
  have hr := row_len gs
  have r0 := at_g (gs := row gs) (i := t) (by omega) (by omega)
  have r1 := at_g (gs := row gs) (i := t + 1) (by omega) (by omega)
  have r2 := at_g (gs := row gs) (i := t + 2) (by omega) (by omega)
  simp only [DL.e_var, DL.e_con, DL.e_glo, DL.e_bin, DL.e_neg, DL.e_cmp, DL.e_chain, DL.e_and, DL.e_or, DL.e_not, DL.e_ite, DL.e_tup, DL.e_lst, DL.e_ix, DL.e_sl, DL.e_call, DL.e_callK, DL.e_bi, DL.e_isi, DL.e_lc, DL.es_nil, DL.es_cons, DL.o_no, DL.o_yes, DL.b_and, DL.b_or, DL.b_not, DL.b_cmp, DL.b_chain, DL.b_val, DL.bs_nil, DL.bs_cons, DL.g_name, DL.g_tup, DL.g_sub, DL.gs_nil, DL.gs_cons, DL.i_seq, DL.i_range1, DL.i_range2, DL.i_range3, DL.i_enum, DL.i_zip, DL.s_nil, DL.s_cons, DL.s_expr, DL.s_ret, DL.s_retN, DL.s_pass, DL.s_brk, DL.s_cont, DL.s_asg, DL.s_par2, DL.s_par3, DL.s_setLc, DL.s_augA, DL.s_augS, DL.s_append, DL.s_if, DL.s_while, DL.s_for, DL.o_add, DL.o_addT, DL.o_addL, DL.o_sub, DL.o_mul, DL.o_mulL, DL.o_fdiv, DL.o_mod, DL.o_pow, DL.o_shl, DL.o_shr, DL.q_lt, DL.q_le, DL.q_gt, DL.q_ge, DL.q_eqI, DL.q_neI, DL.q_eqS, DL.q_neS, DL.q_eqB, DL.q_neB, DL.q_isN, DL.q_notN, DL.q_isB, DL.q_notB, DL.t_bl, DL.t_int, DL.x_tup, DL.x_lst, DL.x_scr, DL.x_ref, DL.c_some, DL.n_f, DL.n_t, DL.f_lenT, DL.f_lenL, DL.f_lenC, DL.f_lenR, DL.f_abs, DL.f_min, DL.f_max, DL.f_intI, DL.f_intB, DL.f_tupT, DL.f_tupL, DL.f_tupR, DL.f_lstT, DL.f_lstL, DL.y_int, DL.y_bl, DL.y_str, DL.y_non, DL.y_tup, DL.y_lst, DL.z_tup, DL.z_lst, DL.z_enum, DL.isiD, DL.t_tup, DL.t_lst, DL.a_0, DL.a_1, DL.a_2, DL.a_3, DL.a_4, DL.a_5, DL.a_6, DL.ex_some, DL.ex_env, DL.ex_int, DL.ex_bl, DL.ex_ref, DL.ex_tup, DL.ex_int2, DL.ex_sub, DL.ex_cell, DL.ix_30, DL.ix_31, DL.ix_32, DL.CC.d, DL.startD, DL.wipeD, DL.i2, List.map_cons, List.map_nil, List.length_cons, List.length_nil, List.replicate, List.cons_append, List.nil_append, List.getElem?_cons_zero, List.getElem?_cons_succ, List.set_cons_zero, List.set_cons_succ, Nat.zero_add, Nat.reduceAdd, Nat.reduceSub, decide_eq_true_eq, Bool.not_eq_true', decide_eq_false_iff_not, if_true, Bool.false_eq_true, if_false, ite_true, ite_false, List.getD_cons_zero, List.getD_cons_succ, eq_self, not_true_eq_false, not_false_eq_true, Bool.true_eq_false, Bool.not_true, Bool.not_false, e0, e1, e2, er, r0, r1, r2, List.length_map]
  have hz : (200 : Nat) ≤ sizeLine := by decide
  refine ⟨by omega, by omega, ?_⟩
  rw [row_mid h0 h1, row_lo h0 h1, row_hi h0 h1]
  have x1 : (gI gs t - if 0 < t then gI gs (t - 1) else gI gs 0) = pcW gs t := by
    unfold pcW
    split
    · rfl
    · have : t = 0 := by omega
      subst this; omega
  have x2 : ((if t + 1 < (gs.length : Int) then gI gs (t + 1) else gI gs t) - gI gs t) = ltW gs t := by
    unfold ltW
    split
    · rfl
    · omega
  rw [x1, x2]
  exact hQ
theorem body10 : ∀ ds S Q, G.fn 10 ds S Q → wpSs G c10 (startD n10.length ds) S { nx := fun _ S' => Q .non S', rt := Q } := by
  rintro ds S Q ⟨n, g, m, t, rfl, hS, ok, ht, hQ⟩
  unfold c10 n10
  simp only [DL.e_var, DL.e_con, DL.e_glo, DL.e_bin, DL.e_neg, DL.e_cmp, DL.e_chain, DL.e_and, DL.e_or, DL.e_not, DL.e_ite, DL.e_tup, DL.e_lst, DL.e_ix, DL.e_sl, DL.e_call, DL.e_callK, DL.e_bi, DL.e_isi, DL.e_lc, DL.es_nil, DL.es_cons, DL.o_no, DL.o_yes, DL.b_and, DL.b_or, DL.b_not, DL.b_cmp, DL.b_chain, DL.b_val, DL.bs_nil, DL.bs_cons, DL.g_name, DL.g_tup, DL.g_sub, DL.gs_nil, DL.gs_cons, DL.i_seq, DL.i_range1, DL.i_range2, DL.i_range3, DL.i_enum, DL.i_zip, DL.s_nil, DL.s_cons, DL.s_expr, DL.s_ret, DL.s_retN, DL.s_pass, DL.s_brk, DL.s_cont, DL.s_asg, DL.s_par2, DL.s_par3, DL.s_setLc, DL.s_augA, DL.s_augS, DL.s_append, DL.s_if, DL.s_while, DL.s_for, DL.o_add, DL.o_addT, DL.o_addL, DL.o_sub, DL.o_mul, DL.o_mulL, DL.o_fdiv, DL.o_mod, DL.o_pow, DL.o_shl, DL.o_shr, DL.q_lt, DL.q_le, DL.q_gt, DL.q_ge, DL.q_eqI, DL.q_neI, DL.q_eqS, DL.q_neS, DL.q_eqB, DL.q_neB, DL.q_isN, DL.q_notN, DL.q_isB, DL.q_notB, DL.t_bl, DL.t_int, DL.x_tup, DL.x_lst, DL.x_scr, DL.x_ref, DL.c_some, DL.n_f, DL.n_t, DL.f_lenT, DL.f_lenL, DL.f_lenC, DL.f_lenR, DL.f_abs, DL.f_min, DL.f_max, DL.f_intI, DL.f_intB, DL.f_tupT, DL.f_tupL, DL.f_tupR, DL.f_lstT, DL.f_lstL, DL.y_int, DL.y_bl, DL.y_str, DL.y_non, DL.y_tup, DL.y_lst, DL.z_tup, DL.z_lst, DL.z_enum, DL.isiD, DL.t_tup, DL.t_lst, DL.a_0, DL.a_1, DL.a_2, DL.a_3, DL.a_4, DL.a_5, DL.a_6, DL.ex_some, DL.ex_env, DL.ex_int, DL.ex_bl, DL.ex_ref, DL.ex_tup, DL.ex_int2, DL.ex_sub, DL.ex_cell, DL.ix_30, DL.ix_31, DL.ix_32, DL.CC.d, DL.startD, DL.wipeD, DL.i2, List.map_cons, List.map_nil, List.length_cons, List.length_nil, List.replicate, List.cons_append, List.nil_append, List.getElem?_cons_zero, List.getElem?_cons_succ, List.set_cons_zero, List.set_cons_succ, Nat.zero_add, Nat.reduceAdd, Nat.reduceSub, decide_eq_true_eq, Bool.not_eq_true', decide_eq_false_iff_not, if_true, Bool.false_eq_true, if_false, ite_true, ite_false, List.getD_cons_zero, List.getD_cons_succ, eq_self, not_true_eq_false, not_false_eq_true, Bool.true_eq_false, Bool.not_true, Bool.not_false, G9]
  refine pickA hS ok (by omega) fun c g t1 S1 hy ok ht1 hS1 => ?_
  obtain ⟨f, rfl, hf⟩ : ∃ k : Int, c = .int k ∧ 1 ≤ k ∧ k ≤ 8 := by
    simp only [List.mem_cons, List.not_mem_nil, or_false] at hy
    rcases hy with rfl | rfl | rfl | rfl | rfl | rfl <;> exact ⟨_, rfl, by omega, by omega⟩
  have hp := pw2_pos f
  have hp2 := pw2_le (f := f) (k := 8) (by omega)
  (try simp only [DL.e_var, DL.e_con, DL.e_glo, DL.e_bin, DL.e_neg, DL.e_cmp, DL.e_chain, DL.e_and, DL.e_or, DL.e_not, DL.e_ite, DL.e_tup, DL.e_lst, DL.e_ix, DL.e_sl, DL.e_call, DL.e_callK, DL.e_bi, DL.e_isi, DL.e_lc, DL.es_nil, DL.es_cons, DL.o_no, DL.o_yes, DL.b_and, DL.b_or, DL.b_not, DL.b_cmp, DL.b_chain, DL.b_val, DL.bs_nil, DL.bs_cons, DL.g_name, DL.g_tup, DL.g_sub, DL.gs_nil, DL.gs_cons, DL.i_seq, DL.i_range1, DL.i_range2, DL.i_range3, DL.i_enum, DL.i_zip, DL.s_nil, DL.s_cons, DL.s_expr, DL.s_ret, DL.s_retN, DL.s_pass, DL.s_brk, DL.s_cont, DL.s_asg, DL.s_par2, DL.s_par3, DL.s_setLc, DL.s_augA, DL.s_augS, DL.s_append, DL.s_if, DL.s_while, DL.s_for, DL.o_add, DL.o_addT, DL.o_addL, DL.o_sub, DL.o_mul, DL.o_mulL, DL.o_fdiv, DL.o_mod, DL.o_pow, DL.o_shl, DL.o_shr, DL.q_lt, DL.q_le, DL.q_gt, DL.q_ge, DL.q_eqI, DL.q_neI, DL.q_eqS, DL.q_neS, DL.q_eqB, DL.q_neB, DL.q_isN, DL.q_notN, DL.q_isB, DL.q_notB, DL.t_bl, DL.t_int, DL.x_tup, DL.x_lst, DL.x_scr, DL.x_ref, DL.c_some, DL.n_f, DL.n_t, DL.f_lenT, DL.f_lenL, DL.f_lenC, DL.f_lenR, DL.f_abs, DL.f_min, DL.f_max, DL.f_intI, DL.f_intB, DL.f_tupT, DL.f_tupL, DL.f_tupR, DL.f_lstT, DL.f_lstL, DL.y_int, DL.y_bl, DL.y_str, DL.y_non, DL.y_tup, DL.y_lst, DL.z_tup, DL.z_lst, DL.z_enum, DL.isiD, DL.t_tup, DL.t_lst, DL.a_0, DL.a_1, DL.a_2, DL.a_3, DL.a_4, DL.a_5, DL.a_6, DL.ex_some, DL.ex_env, DL.ex_int, DL.ex_bl, DL.ex_ref, DL.ex_tup, DL.ex_int2, DL.ex_sub, DL.ex_cell, DL.ix_30, DL.ix_31, DL.ix_32, DL.CC.d, DL.startD, DL.wipeD, DL.i2, List.map_cons, List.map_nil, List.length_cons, List.length_nil, List.replicate, List.cons_append, List.nil_append, List.getElem?_cons_zero, List.getElem?_cons_succ, List.set_cons_zero, List.set_cons_succ, Nat.zero_add, Nat.reduceAdd, Nat.reduceSub, decide_eq_true_eq, Bool.not_eq_true', decide_eq_false_iff_not, if_true, Bool.false_eq_true, if_false, ite_true, ite_false, List.getD_cons_zero, List.getD_cons_succ, eq_self, not_true_eq_false, not_false_eq_true, Bool.true_eq_false, Bool.not_true, Bool.not_false, G8, pw2_one])
  refine ⟨cpow1 (by omega) (by omega), ?_⟩
  refine takeA hS1 ok (by omega) (by decide) (by decide) fun v1 g t2 S2 _ _ ok ht2 hS2 => ?_
  (try simp only [DL.e_var, DL.e_con, DL.e_glo, DL.e_bin, DL.e_neg, DL.e_cmp, DL.e_chain, DL.e_and, DL.e_or, DL.e_not, DL.e_ite, DL.e_tup, DL.e_lst, DL.e_ix, DL.e_sl, DL.e_call, DL.e_callK, DL.e_bi, DL.e_isi, DL.e_lc, DL.es_nil, DL.es_cons, DL.o_no, DL.o_yes, DL.b_and, DL.b_or, DL.b_not, DL.b_cmp, DL.b_chain, DL.b_val, DL.bs_nil, DL.bs_cons, DL.g_name, DL.g_tup, DL.g_sub, DL.gs_nil, DL.gs_cons, DL.i_seq, DL.i_range1, DL.i_range2, DL.i_range3, DL.i_enum, DL.i_zip, DL.s_nil, DL.s_cons, DL.s_expr, DL.s_ret, DL.s_retN, DL.s_pass, DL.s_brk, DL.s_cont, DL.s_asg, DL.s_par2, DL.s_par3, DL.s_setLc, DL.s_augA, DL.s_augS, DL.s_append, DL.s_if, DL.s_while, DL.s_for, DL.o_add, DL.o_addT, DL.o_addL, DL.o_sub, DL.o_mul, DL.o_mulL, DL.o_fdiv, DL.o_mod, DL.o_pow, DL.o_shl, DL.o_shr, DL.q_lt, DL.q_le, DL.q_gt, DL.q_ge, DL.q_eqI, DL.q_neI, DL.q_eqS, DL.q_neS, DL.q_eqB, DL.q_neB, DL.q_isN, DL.q_notN, DL.q_isB, DL.q_notB, DL.t_bl, DL.t_int, DL.x_tup, DL.x_lst, DL.x_scr, DL.x_ref, DL.c_some, DL.n_f, DL.n_t, DL.f_lenT, DL.f_lenL, DL.f_lenC, DL.f_lenR, DL.f_abs, DL.f_min, DL.f_max, DL.f_intI, DL.f_intB, DL.f_tupT, DL.f_tupL, DL.f_tupR, DL.f_lstT, DL.f_lstL, DL.y_int, DL.y_bl, DL.y_str, DL.y_non, DL.y_tup, DL.y_lst, DL.z_tup, DL.z_lst, DL.z_enum, DL.isiD, DL.t_tup, DL.t_lst, DL.a_0, DL.a_1, DL.a_2, DL.a_3, DL.a_4, DL.a_5, DL.a_6, DL.ex_some, DL.ex_env, DL.ex_int, DL.ex_bl, DL.ex_ref, DL.ex_tup, DL.ex_int2, DL.ex_sub, DL.ex_cell, DL.ix_30, DL.ix_31, DL.ix_32, DL.CC.d, DL.startD, DL.wipeD, DL.i2, List.map_cons, List.map_nil, List.length_cons, List.length_nil, List.replicate, List.cons_append, List.nil_append, List.getElem?_cons_zero, List.getElem?_cons_succ, List.set_cons_zero, List.set_cons_succ, Nat.zero_add, Nat.reduceAdd, Nat.reduceSub, decide_eq_true_eq, Bool.not_eq_true', decide_eq_false_iff_not, if_true, Bool.false_eq_true, if_false, ite_true, ite_false, List.getD_cons_zero, List.getD_cons_succ, eq_self, not_true_eq_false, not_false_eq_true, Bool.true_eq_false, Bool.not_true, Bool.not_false])
  refine if_i (fun _ => ?_) fun _ => ?_
  · (try simp only [DL.e_var, DL.e_con, DL.e_glo, DL.e_bin, DL.e_neg, DL.e_cmp, DL.e_chain, DL.e_and, DL.e_or, DL.e_not, DL.e_ite, DL.e_tup, DL.e_lst, DL.e_ix, DL.e_sl, DL.e_call, DL.e_callK, DL.e_bi, DL.e_isi, DL.e_lc, DL.es_nil, DL.es_cons, DL.o_no, DL.o_yes, DL.b_and, DL.b_or, DL.b_not, DL.b_cmp, DL.b_chain, DL.b_val, DL.bs_nil, DL.bs_cons, DL.g_name, DL.g_tup, DL.g_sub, DL.gs_nil, DL.gs_cons, DL.i_seq, DL.i_range1, DL.i_range2, DL.i_range3, DL.i_enum, DL.i_zip, DL.s_nil, DL.s_cons, DL.s_expr, DL.s_ret, DL.s_retN, DL.s_pass, DL.s_brk, DL.s_cont, DL.s_asg, DL.s_par2, DL.s_par3, DL.s_setLc, DL.s_augA, DL.s_augS, DL.s_append, DL.s_if, DL.s_while, DL.s_for, DL.o_add, DL.o_addT, DL.o_addL, DL.o_sub, DL.o_mul, DL.o_mulL, DL.o_fdiv, DL.o_mod, DL.o_pow, DL.o_shl, DL.o_shr, DL.q_lt, DL.q_le, DL.q_gt, DL.q_ge, DL.q_eqI, DL.q_neI, DL.q_eqS, DL.q_neS, DL.q_eqB, DL.q_neB, DL.q_isN, DL.q_notN, DL.q_isB, DL.q_notB, DL.t_bl, DL.t_int, DL.x_tup, DL.x_lst, DL.x_scr, DL.x_ref, DL.c_some, DL.n_f, DL.n_t, DL.f_lenT, DL.f_lenL, DL.f_lenC, DL.f_lenR, DL.f_abs, DL.f_min, DL.f_max, DL.f_intI, DL.f_intB, DL.f_tupT, DL.f_tupL, DL.f_tupR, DL.f_lstT, DL.f_lstL, DL.y_int, DL.y_bl, DL.y_str, DL.y_non, DL.y_tup, DL.y_lst, DL.z_tup, DL.z_lst, DL.z_enum, DL.isiD, DL.t_tup, DL.t_lst, DL.a_0, DL.a_1, DL.a_2, DL.a_3, DL.a_4, DL.a_5, DL.a_6, DL.ex_some, DL.ex_env, DL.ex_int, DL.ex_bl, DL.ex_ref, DL.ex_tup, DL.ex_int2, DL.ex_sub, DL.ex_cell, DL.ix_30, DL.ix_31, DL.ix_32, DL.CC.d, DL.startD, DL.wipeD, DL.i2, List.map_cons, List.map_nil, List.length_cons, List.length_nil, List.replicate, List.cons_append, List.nil_append, List.getElem?_cons_zero, List.getElem?_cons_succ, List.set_cons_zero, List.set_cons_succ, Nat.zero_add, Nat.reduceAdd, Nat.reduceSub, decide_eq_true_eq, Bool.not_eq_true', decide_eq_false_iff_not, if_true, Bool.false_eq_true, if_false, ite_true, ite_false, List.getD_cons_zero, List.getD_cons_succ, eq_self, not_true_eq_false, not_false_eq_true, Bool.true_eq_false, Bool.not_true, Bool.not_false, G8])
    refine takeA hS2 ok (by omega) (by decide) (by decide) fun x1 g t3 S3 _ _ ok ht3 hS3 => ?_
    (try simp only [DL.e_var, DL.e_con, DL.e_glo, DL.e_bin, DL.e_neg, DL.e_cmp, DL.e_chain, DL.e_and, DL.e_or, DL.e_not, DL.e_ite, DL.e_tup, DL.e_lst, DL.e_ix, DL.e_sl, DL.e_call, DL.e_callK, DL.e_bi, DL.e_isi, DL.e_lc, DL.es_nil, DL.es_cons, DL.o_no, DL.o_yes, DL.b_and, DL.b_or, DL.b_not, DL.b_cmp, DL.b_chain, DL.b_val, DL.bs_nil, DL.bs_cons, DL.g_name, DL.g_tup, DL.g_sub, DL.gs_nil, DL.gs_cons, DL.i_seq, DL.i_range1, DL.i_range2, DL.i_range3, DL.i_enum, DL.i_zip, DL.s_nil, DL.s_cons, DL.s_expr, DL.s_ret, DL.s_retN, DL.s_pass, DL.s_brk, DL.s_cont, DL.s_asg, DL.s_par2, DL.s_par3, DL.s_setLc, DL.s_augA, DL.s_augS, DL.s_append, DL.s_if, DL.s_while, DL.s_for, DL.o_add, DL.o_addT, DL.o_addL, DL.o_sub, DL.o_mul, DL.o_mulL, DL.o_fdiv, DL.o_mod, DL.o_pow, DL.o_shl, DL.o_shr, DL.q_lt, DL.q_le, DL.q_gt, DL.q_ge, DL.q_eqI, DL.q_neI, DL.q_eqS, DL.q_neS, DL.q_eqB, DL.q_neB, DL.q_isN, DL.q_notN, DL.q_isB, DL.q_notB, DL.t_bl, DL.t_int, DL.x_tup, DL.x_lst, DL.x_scr, DL.x_ref, DL.c_some, DL.n_f, DL.n_t, DL.f_lenT, DL.f_lenL, DL.f_lenC, DL.f_lenR, DL.f_abs, DL.f_min, DL.f_max, DL.f_intI, DL.f_intB, DL.f_tupT, DL.f_tupL, DL.f_tupR, DL.f_lstT, DL.f_lstL, DL.y_int, DL.y_bl, DL.y_str, DL.y_non, DL.y_tup, DL.y_lst, DL.z_tup, DL.z_lst, DL.z_enum, DL.isiD, DL.t_tup, DL.t_lst, DL.a_0, DL.a_1, DL.a_2, DL.a_3, DL.a_4, DL.a_5, DL.a_6, DL.ex_some, DL.ex_env, DL.ex_int, DL.ex_bl, DL.ex_ref, DL.ex_tup, DL.ex_int2, DL.ex_sub, DL.ex_cell, DL.ix_30, DL.ix_31, DL.ix_32, DL.CC.d, DL.startD, DL.wipeD, DL.i2, List.map_cons, List.map_nil, List.length_cons, List.length_nil, List.replicate, List.cons_append, List.nil_append, List.getElem?_cons_zero, List.getElem?_cons_succ, List.set_cons_zero, List.set_cons_succ, Nat.zero_add, Nat.reduceAdd, Nat.reduceSub, decide_eq_true_eq, Bool.not_eq_true', decide_eq_false_iff_not, if_true, Bool.false_eq_true, if_false, ite_true, ite_false, List.getD_cons_zero, List.getD_cons_succ, eq_self, not_true_eq_false, not_false_eq_true, Bool.true_eq_false, Bool.not_true, Bool.not_false, G8])
    refine takeA hS3 ok (by omega) (by decide) (by decide) fun x2 g t4 S4 _ _ ok ht4 hS4 => ?_
    (try simp only [DL.e_var, DL.e_con, DL.e_glo, DL.e_bin, DL.e_neg, DL.e_cmp, DL.e_chain, DL.e_and, DL.e_or, DL.e_not, DL.e_ite, DL.e_tup, DL.e_lst, DL.e_ix, DL.e_sl, DL.e_call, DL.e_callK, DL.e_bi, DL.e_isi, DL.e_lc, DL.es_nil, DL.es_cons, DL.o_no, DL.o_yes, DL.b_and, DL.b_or, DL.b_not, DL.b_cmp, DL.b_chain, DL.b_val, DL.bs_nil, DL.bs_cons, DL.g_name, DL.g_tup, DL.g_sub, DL.gs_nil, DL.gs_cons, DL.i_seq, DL.i_range1, DL.i_range2, DL.i_range3, DL.i_enum, DL.i_zip, DL.s_nil, DL.s_cons, DL.s_expr, DL.s_ret, DL.s_retN, DL.s_pass, DL.s_brk, DL.s_cont, DL.s_asg, DL.s_par2, DL.s_par3, DL.s_setLc, DL.s_augA, DL.s_augS, DL.s_append, DL.s_if, DL.s_while, DL.s_for, DL.o_add, DL.o_addT, DL.o_addL, DL.o_sub, DL.o_mul, DL.o_mulL, DL.o_fdiv, DL.o_mod, DL.o_pow, DL.o_shl, DL.o_shr, DL.q_lt, DL.q_le, DL.q_gt, DL.q_ge, DL.q_eqI, DL.q_neI, DL.q_eqS, DL.q_neS, DL.q_eqB, DL.q_neB, DL.q_isN, DL.q_notN, DL.q_isB, DL.q_notB, DL.t_bl, DL.t_int, DL.x_tup, DL.x_lst, DL.x_scr, DL.x_ref, DL.c_some, DL.n_f, DL.n_t, DL.f_lenT, DL.f_lenL, DL.f_lenC, DL.f_lenR, DL.f_abs, DL.f_min, DL.f_max, DL.f_intI, DL.f_intB, DL.f_tupT, DL.f_tupL, DL.f_tupR, DL.f_lstT, DL.f_lstL, DL.y_int, DL.y_bl, DL.y_str, DL.y_non, DL.y_tup, DL.y_lst, DL.z_tup, DL.z_lst, DL.z_enum, DL.isiD, DL.t_tup, DL.t_lst, DL.a_0, DL.a_1, DL.a_2, DL.a_3, DL.a_4, DL.a_5, DL.a_6, DL.ex_some, DL.ex_env, DL.ex_int, DL.ex_bl, DL.ex_ref, DL.ex_tup, DL.ex_int2, DL.ex_sub, DL.ex_cell, DL.ix_30, DL.ix_31, DL.ix_32, DL.CC.d, DL.startD, DL.wipeD, DL.i2, List.map_cons, List.map_nil, List.length_cons, List.length_nil, List.replicate, List.cons_append, List.nil_append, List.getElem?_cons_zero, List.getElem?_cons_succ, List.set_cons_zero, List.set_cons_succ, Nat.zero_add, Nat.reduceAdd, Nat.reduceSub, decide_eq_true_eq, Bool.not_eq_true', decide_eq_false_iff_not, if_true, Bool.false_eq_true, if_false, ite_true, ite_false, List.getD_cons_zero, List.getD_cons_succ, eq_self, not_true_eq_false, not_false_eq_true, Bool.true_eq_false, Bool.not_true, Bool.not_false, G8])
    refine takeA hS4 ok (by omega) (by decide) (by decide) fun x3 g t5 S5 _ _ ok ht5 hS5 => ?_
    (try simp only [DL.e_var, DL.e_con, DL.e_glo, DL.e_bin, DL.e_neg, DL.e_cmp, DL.e_chain, DL.e_and, DL.e_or, DL.e_not, DL.e_ite, DL.e_tup, DL.e_lst, DL.e_ix, DL.e_sl, DL.e_call, DL.e_callK, DL.e_bi, DL.e_isi, DL.e_lc, DL.es_nil, DL.es_cons, DL.o_no, DL.o_yes, DL.b_and, DL.b_or, DL.b_not, DL.b_cmp, DL.b_chain, DL.b_val, DL.bs_nil, DL.bs_cons, DL.g_name, DL.g_tup, DL.g_sub, DL.gs_nil, DL.gs_cons, DL.i_seq, DL.i_range1, DL.i_range2, DL.i_range3, DL.i_enum, DL.i_zip, DL.s_nil, DL.s_cons, DL.s_expr, DL.s_ret, DL.s_retN, DL.s_pass, DL.s_brk, DL.s_cont, DL.s_asg, DL.s_par2, DL.s_par3, DL.s_setLc, DL.s_augA, DL.s_augS, DL.s_append, DL.s_if, DL.s_while, DL.s_for, DL.o_add, DL.o_addT, DL.o_addL, DL.o_sub, DL.o_mul, DL.o_mulL, DL.o_fdiv, DL.o_mod, DL.o_pow, DL.o_shl, DL.o_shr, DL.q_lt, DL.q_le, DL.q_gt, DL.q_ge, DL.q_eqI, DL.q_neI, DL.q_eqS, DL.q_neS, DL.q_eqB, DL.q_neB, DL.q_isN, DL.q_notN, DL.q_isB, DL.q_notB, DL.t_bl, DL.t_int, DL.x_tup, DL.x_lst, DL.x_scr, DL.x_ref, DL.c_some, DL.n_f, DL.n_t, DL.f_lenT, DL.f_lenL, DL.f_lenC, DL.f_lenR, DL.f_abs, DL.f_min, DL.f_max, DL.f_intI, DL.f_intB, DL.f_tupT, DL.f_tupL, DL.f_tupR, DL.f_lstT, DL.f_lstL, DL.y_int, DL.y_bl, DL.y_str, DL.y_non, DL.y_tup, DL.y_lst, DL.z_tup, DL.z_lst, DL.z_enum, DL.isiD, DL.t_tup, DL.t_lst, DL.a_0, DL.a_1, DL.a_2, DL.a_3, DL.a_4, DL.a_5, DL.a_6, DL.ex_some, DL.ex_env, DL.ex_int, DL.ex_bl, DL.ex_ref, DL.ex_tup, DL.ex_int2, DL.ex_sub, DL.ex_cell, DL.ix_30, DL.ix_31, DL.ix_32, DL.CC.d, DL.startD, DL.wipeD, DL.i2, List.map_cons, List.map_nil, List.length_cons, List.length_nil, List.replicate, List.cons_append, List.nil_append, List.getElem?_cons_zero, List.getElem?_cons_succ, List.set_cons_zero, List.set_cons_succ, Nat.zero_add, Nat.reduceAdd, Nat.reduceSub, decide_eq_true_eq, Bool.not_eq_true', decide_eq_false_iff_not, if_true, Bool.false_eq_true, if_false, ite_true, ite_false, List.getD_cons_zero, List.getD_cons_succ, eq_self, not_true_eq_false, not_false_eq_true, Bool.true_eq_false, Bool.not_true, Bool.not_false, G8])
    refine takeA hS5 ok (by omega) (by decide) (by decide) fun x4 g t6 S6 _ _ ok ht6 hS6 => ?_
    (try simp only [DL.e_var, DL.e_con, DL.e_glo, DL.e_bin, DL.e_neg, DL.e_cmp, DL.e_chain, DL.e_and, DL.e_or, DL.e_not, DL.e_ite, DL.e_tup, DL.e_lst, DL.e_ix, DL.e_sl, DL.e_call, DL.e_callK, DL.e_bi, DL.e_isi, DL.e_lc, DL.es_nil, DL.es_cons, DL.o_no, DL.o_yes, DL.b_and, DL.b_or, DL.b_not, DL.b_cmp, DL.b_chain, DL.b_val, DL.bs_nil, DL.bs_cons, DL.g_name, DL.g_tup, DL.g_sub, DL.gs_nil, DL.gs_cons, DL.i_seq, DL.i_range1, DL.i_range2, DL.i_range3, DL.i_enum, DL.i_zip, DL.s_nil, DL.s_cons, DL.s_expr, DL.s_ret, DL.s_retN, DL.s_pass, DL.s_brk, DL.s_cont, DL.s_asg, DL.s_par2, DL.s_par3, DL.s_setLc, DL.s_augA, DL.s_augS, DL.s_append, DL.s_if, DL.s_while, DL.s_for, DL.o_add, DL.o_addT, DL.o_addL, DL.o_sub, DL.o_mul, DL.o_mulL, DL.o_fdiv, DL.o_mod, DL.o_pow, DL.o_shl, DL.o_shr, DL.q_lt, DL.q_le, DL.q_gt, DL.q_ge, DL.q_eqI, DL.q_neI, DL.q_eqS, DL.q_neS, DL.q_eqB, DL.q_neB, DL.q_isN, DL.q_notN, DL.q_isB, DL.q_notB, DL.t_bl, DL.t_int, DL.x_tup, DL.x_lst, DL.x_scr, DL.x_ref, DL.c_some, DL.n_f, DL.n_t, DL.f_lenT, DL.f_lenL, DL.f_lenC, DL.f_lenR, DL.f_abs, DL.f_min, DL.f_max, DL.f_intI, DL.f_intB, DL.f_tupT, DL.f_tupL, DL.f_tupR, DL.f_lstT, DL.f_lstL, DL.y_int, DL.y_bl, DL.y_str, DL.y_non, DL.y_tup, DL.y_lst, DL.z_tup, DL.z_lst, DL.z_enum, DL.isiD, DL.t_tup, DL.t_lst, DL.a_0, DL.a_1, DL.a_2, DL.a_3, DL.a_4, DL.a_5, DL.a_6, DL.ex_some, DL.ex_env, DL.ex_int, DL.ex_bl, DL.ex_ref, DL.ex_tup, DL.ex_int2, DL.ex_sub, DL.ex_cell, DL.ix_30, DL.ix_31, DL.ix_32, DL.CC.d, DL.startD, DL.wipeD, DL.i2, List.map_cons, List.map_nil, List.length_cons, List.length_nil, List.replicate, List.cons_append, List.nil_append, List.getElem?_cons_zero, List.getElem?_cons_succ, List.set_cons_zero, List.set_cons_succ, Nat.zero_add, Nat.reduceAdd, Nat.reduceSub, decide_eq_true_eq, Bool.not_eq_true', decide_eq_false_iff_not, if_true, Bool.false_eq_true, if_false, ite_true, ite_false, List.getD_cons_zero, List.getD_cons_succ, eq_self, not_true_eq_false, not_false_eq_true, Bool.true_eq_false, Bool.not_true, Bool.not_false])
    exact hQ _ _ _ _ g t6 S6 ⟨by omega, by omega, by omega, by omega, by omega, by omega, by omega, by omega⟩ (by omega) (by omega) (by omega) (by omega) ok (by omega) hS6
  · (try simp only [DL.e_var, DL.e_con, DL.e_glo, DL.e_bin, DL.e_neg, DL.e_cmp, DL.e_chain, DL.e_and, DL.e_or, DL.e_not, DL.e_ite, DL.e_tup, DL.e_lst, DL.e_ix, DL.e_sl, DL.e_call, DL.e_callK, DL.e_bi, DL.e_isi, DL.e_lc, DL.es_nil, DL.es_cons, DL.o_no, DL.o_yes, DL.b_and, DL.b_or, DL.b_not, DL.b_cmp, DL.b_chain, DL.b_val, DL.bs_nil, DL.bs_cons, DL.g_name, DL.g_tup, DL.g_sub, DL.gs_nil, DL.gs_cons, DL.i_seq, DL.i_range1, DL.i_range2, DL.i_range3, DL.i_enum, DL.i_zip, DL.s_nil, DL.s_cons, DL.s_expr, DL.s_ret, DL.s_retN, DL.s_pass, DL.s_brk, DL.s_cont, DL.s_asg, DL.s_par2, DL.s_par3, DL.s_setLc, DL.s_augA, DL.s_augS, DL.s_append, DL.s_if, DL.s_while, DL.s_for, DL.o_add, DL.o_addT, DL.o_addL, DL.o_sub, DL.o_mul, DL.o_mulL, DL.o_fdiv, DL.o_mod, DL.o_pow, DL.o_shl, DL.o_shr, DL.q_lt, DL.q_le, DL.q_gt, DL.q_ge, DL.q_eqI, DL.q_neI, DL.q_eqS, DL.q_neS, DL.q_eqB, DL.q_neB, DL.q_isN, DL.q_notN, DL.q_isB, DL.q_notB, DL.t_bl, DL.t_int, DL.x_tup, DL.x_lst, DL.x_scr, DL.x_ref, DL.c_some, DL.n_f, DL.n_t, DL.f_lenT, DL.f_lenL, DL.f_lenC, DL.f_lenR, DL.f_abs, DL.f_min, DL.f_max, DL.f_intI, DL.f_intB, DL.f_tupT, DL.f_tupL, DL.f_tupR, DL.f_lstT, DL.f_lstL, DL.y_int, DL.y_bl, DL.y_str, DL.y_non, DL.y_tup, DL.y_lst, DL.z_tup, DL.z_lst, DL.z_enum, DL.isiD, DL.t_tup, DL.t_lst, DL.a_0, DL.a_1, DL.a_2, DL.a_3, DL.a_4, DL.a_5, DL.a_6, DL.ex_some, DL.ex_env, DL.ex_int, DL.ex_bl, DL.ex_ref, DL.ex_tup, DL.ex_int2, DL.ex_sub, DL.ex_cell, DL.ix_30, DL.ix_31, DL.ix_32, DL.CC.d, DL.startD, DL.wipeD, DL.i2, List.map_cons, List.map_nil, List.length_cons, List.length_nil, List.replicate, List.cons_append, List.nil_append, List.getElem?_cons_zero, List.getElem?_cons_succ, List.set_cons_zero, List.set_cons_succ, Nat.zero_add, Nat.reduceAdd, Nat.reduceSub, decide_eq_true_eq, Bool.not_eq_true', decide_eq_false_iff_not, if_true, Bool.false_eq_true, if_false, ite_true, ite_false, List.getD_cons_zero, List.getD_cons_succ, eq_self, not_true_eq_false, not_false_eq_true, Bool.true_eq_false, Bool.not_true, Bool.not_false, G8])
    rw [Int.fdiv_eq_ediv_of_nonneg _ (by decide)]
    have hm : 0 < (if pw2 f / 2 > 1 then pw2 f / 2 else 1) ∧ (if pw2 f / 2 > 1 then pw2 f / 2 else 1) ≤ 128 := by split <;> omega
    refine ⟨div_small (by decide) (by decide), ?_⟩
    refine takeA hS2 ok (by omega) hm.1 (by omega) fun x1 g t3 S3 _ _ ok ht3 hS3 => ?_
    (try simp only [DL.e_var, DL.e_con, DL.e_glo, DL.e_bin, DL.e_neg, DL.e_cmp, DL.e_chain, DL.e_and, DL.e_or, DL.e_not, DL.e_ite, DL.e_tup, DL.e_lst, DL.e_ix, DL.e_sl, DL.e_call, DL.e_callK, DL.e_bi, DL.e_isi, DL.e_lc, DL.es_nil, DL.es_cons, DL.o_no, DL.o_yes, DL.b_and, DL.b_or, DL.b_not, DL.b_cmp, DL.b_chain, DL.b_val, DL.bs_nil, DL.bs_cons, DL.g_name, DL.g_tup, DL.g_sub, DL.gs_nil, DL.gs_cons, DL.i_seq, DL.i_range1, DL.i_range2, DL.i_range3, DL.i_enum, DL.i_zip, DL.s_nil, DL.s_cons, DL.s_expr, DL.s_ret, DL.s_retN, DL.s_pass, DL.s_brk, DL.s_cont, DL.s_asg, DL.s_par2, DL.s_par3, DL.s_setLc, DL.s_augA, DL.s_augS, DL.s_append, DL.s_if, DL.s_while, DL.s_for, DL.o_add, DL.o_addT, DL.o_addL, DL.o_sub, DL.o_mul, DL.o_mulL, DL.o_fdiv, DL.o_mod, DL.o_pow, DL.o_shl, DL.o_shr, DL.q_lt, DL.q_le, DL.q_gt, DL.q_ge, DL.q_eqI, DL.q_neI, DL.q_eqS, DL.q_neS, DL.q_eqB, DL.q_neB, DL.q_isN, DL.q_notN, DL.q_isB, DL.q_notB, DL.t_bl, DL.t_int, DL.x_tup, DL.x_lst, DL.x_scr, DL.x_ref, DL.c_some, DL.n_f, DL.n_t, DL.f_lenT, DL.f_lenL, DL.f_lenC, DL.f_lenR, DL.f_abs, DL.f_min, DL.f_max, DL.f_intI, DL.f_intB, DL.f_tupT, DL.f_tupL, DL.f_tupR, DL.f_lstT, DL.f_lstL, DL.y_int, DL.y_bl, DL.y_str, DL.y_non, DL.y_tup, DL.y_lst, DL.z_tup, DL.z_lst, DL.z_enum, DL.isiD, DL.t_tup, DL.t_lst, DL.a_0, DL.a_1, DL.a_2, DL.a_3, DL.a_4, DL.a_5, DL.a_6, DL.ex_some, DL.ex_env, DL.ex_int, DL.ex_bl, DL.ex_ref, DL.ex_tup, DL.ex_int2, DL.ex_sub, DL.ex_cell, DL.ix_30, DL.ix_31, DL.ix_32, DL.CC.d, DL.startD, DL.wipeD, DL.i2, List.map_cons, List.map_nil, List.length_cons, List.length_nil, List.replicate, List.cons_append, List.nil_append, List.getElem?_cons_zero, List.getElem?_cons_succ, List.set_cons_zero, List.set_cons_succ, Nat.zero_add, Nat.reduceAdd, Nat.reduceSub, decide_eq_true_eq, Bool.not_eq_true', decide_eq_false_iff_not, if_true, Bool.false_eq_true, if_false, ite_true, ite_false, List.getD_cons_zero, List.getD_cons_succ, eq_self, not_true_eq_false, not_false_eq_true, Bool.true_eq_false, Bool.not_true, Bool.not_false, G8])
    refine ⟨div_small (by decide) (by decide), div_small (by decide) (by decide), ?_⟩
    refine takeA hS3 ok (by omega) (by omega) (by omega) fun x2 g t4 S4 _ _ ok ht4 hS4 => ?_
    (try simp only [DL.e_var, DL.e_con, DL.e_glo, DL.e_bin, DL.e_neg, DL.e_cmp, DL.e_chain, DL.e_and, DL.e_or, DL.e_not, DL.e_ite, DL.e_tup, DL.e_lst, DL.e_ix, DL.e_sl, DL.e_call, DL.e_callK, DL.e_bi, DL.e_isi, DL.e_lc, DL.es_nil, DL.es_cons, DL.o_no, DL.o_yes, DL.b_and, DL.b_or, DL.b_not, DL.b_cmp, DL.b_chain, DL.b_val, DL.bs_nil, DL.bs_cons, DL.g_name, DL.g_tup, DL.g_sub, DL.gs_nil, DL.gs_cons, DL.i_seq, DL.i_range1, DL.i_range2, DL.i_range3, DL.i_enum, DL.i_zip, DL.s_nil, DL.s_cons, DL.s_expr, DL.s_ret, DL.s_retN, DL.s_pass, DL.s_brk, DL.s_cont, DL.s_asg, DL.s_par2, DL.s_par3, DL.s_setLc, DL.s_augA, DL.s_augS, DL.s_append, DL.s_if, DL.s_while, DL.s_for, DL.o_add, DL.o_addT, DL.o_addL, DL.o_sub, DL.o_mul, DL.o_mulL, DL.o_fdiv, DL.o_mod, DL.o_pow, DL.o_shl, DL.o_shr, DL.q_lt, DL.q_le, DL.q_gt, DL.q_ge, DL.q_eqI, DL.q_neI, DL.q_eqS, DL.q_neS, DL.q_eqB, DL.q_neB, DL.q_isN, DL.q_notN, DL.q_isB, DL.q_notB, DL.t_bl, DL.t_int, DL.x_tup, DL.x_lst, DL.x_scr, DL.x_ref, DL.c_some, DL.n_f, DL.n_t, DL.f_lenT, DL.f_lenL, DL.f_lenC, DL.f_lenR, DL.f_abs, DL.f_min, DL.f_max, DL.f_intI, DL.f_intB, DL.f_tupT, DL.f_tupL, DL.f_tupR, DL.f_lstT, DL.f_lstL, DL.y_int, DL.y_bl, DL.y_str, DL.y_non, DL.y_tup, DL.y_lst, DL.z_tup, DL.z_lst, DL.z_enum, DL.isiD, DL.t_tup, DL.t_lst, DL.a_0, DL.a_1, DL.a_2, DL.a_3, DL.a_4, DL.a_5, DL.a_6, DL.ex_some, DL.ex_env, DL.ex_int, DL.ex_bl, DL.ex_ref, DL.ex_tup, DL.ex_int2, DL.ex_sub, DL.ex_cell, DL.ix_30, DL.ix_31, DL.ix_32, DL.CC.d, DL.startD, DL.wipeD, DL.i2, List.map_cons, List.map_nil, List.length_cons, List.length_nil, List.replicate, List.cons_append, List.nil_append, List.getElem?_cons_zero, List.getElem?_cons_succ, List.set_cons_zero, List.set_cons_succ, Nat.zero_add, Nat.reduceAdd, Nat.reduceSub, decide_eq_true_eq, Bool.not_eq_true', decide_eq_false_iff_not, if_true, Bool.false_eq_true, if_false, ite_true, ite_false, List.getD_cons_zero, List.getD_cons_succ, eq_self, not_true_eq_false, not_false_eq_true, Bool.true_eq_false, Bool.not_true, Bool.not_false, G9])
    refine pickA hS4 ok (by omega) fun c g t5 S5 hy ok ht5 hS5 => ?_
    obtain ⟨bt, rfl, hb⟩ : ∃ k : Int, c = .int k ∧ 10 ≤ k ∧ k ≤ 32 := by
      simp only [List.mem_cons, List.not_mem_nil, or_false] at hy
      rcases hy with rfl | rfl | rfl | rfl | rfl <;> exact ⟨_, rfl, by omega, by omega⟩
    (try simp only [DL.e_var, DL.e_con, DL.e_glo, DL.e_bin, DL.e_neg, DL.e_cmp, DL.e_chain, DL.e_and, DL.e_or, DL.e_not, DL.e_ite, DL.e_tup, DL.e_lst, DL.e_ix, DL.e_sl, DL.e_call, DL.e_callK, DL.e_bi, DL.e_isi, DL.e_lc, DL.es_nil, DL.es_cons, DL.o_no, DL.o_yes, DL.b_and, DL.b_or, DL.b_not, DL.b_cmp, DL.b_chain, DL.b_val, DL.bs_nil, DL.bs_cons, DL.g_name, DL.g_tup, DL.g_sub, DL.gs_nil, DL.gs_cons, DL.i_seq, DL.i_range1, DL.i_range2, DL.i_range3, DL.i_enum, DL.i_zip, DL.s_nil, DL.s_cons, DL.s_expr, DL.s_ret, DL.s_retN, DL.s_pass, DL.s_brk, DL.s_cont, DL.s_asg, DL.s_par2, DL.s_par3, DL.s_setLc, DL.s_augA, DL.s_augS, DL.s_append, DL.s_if, DL.s_while, DL.s_for, DL.o_add, DL.o_addT, DL.o_addL, DL.o_sub, DL.o_mul, DL.o_mulL, DL.o_fdiv, DL.o_mod, DL.o_pow, DL.o_shl, DL.o_shr, DL.q_lt, DL.q_le, DL.q_gt, DL.q_ge, DL.q_eqI, DL.q_neI, DL.q_eqS, DL.q_neS, DL.q_eqB, DL.q_neB, DL.q_isN, DL.q_notN, DL.q_isB, DL.q_notB, DL.t_bl, DL.t_int, DL.x_tup, DL.x_lst, DL.x_scr, DL.x_ref, DL.c_some, DL.n_f, DL.n_t, DL.f_lenT, DL.f_lenL, DL.f_lenC, DL.f_lenR, DL.f_abs, DL.f_min, DL.f_max, DL.f_intI, DL.f_intB, DL.f_tupT, DL.f_tupL, DL.f_tupR, DL.f_lstT, DL.f_lstL, DL.y_int, DL.y_bl, DL.y_str, DL.y_non, DL.y_tup, DL.y_lst, DL.z_tup, DL.z_lst, DL.z_enum, DL.isiD, DL.t_tup, DL.t_lst, DL.a_0, DL.a_1, DL.a_2, DL.a_3, DL.a_4, DL.a_5, DL.a_6, DL.ex_some, DL.ex_env, DL.ex_int, DL.ex_bl, DL.ex_ref, DL.ex_tup, DL.ex_int2, DL.ex_sub, DL.ex_cell, DL.ix_30, DL.ix_31, DL.ix_32, DL.CC.d, DL.startD, DL.wipeD, DL.i2, List.map_cons, List.map_nil, List.length_cons, List.length_nil, List.replicate, List.cons_append, List.nil_append, List.getElem?_cons_zero, List.getElem?_cons_succ, List.set_cons_zero, List.set_cons_succ, Nat.zero_add, Nat.reduceAdd, Nat.reduceSub, decide_eq_true_eq, Bool.not_eq_true', decide_eq_false_iff_not, if_true, Bool.false_eq_true, if_false, ite_true, ite_false, List.getD_cons_zero, List.getD_cons_succ, eq_self, not_true_eq_false, not_false_eq_true, Bool.true_eq_false, Bool.not_true, Bool.not_false])
    exact hQ _ _ _ _ g t5 S5 ⟨by omega, by omega, by omega, by omega, by omega, by omega, by omega, by omega⟩ (by omega) (by omega) (by omega) (by omega) ok (by omega) hS5
theorem body12 : ∀ ds S Q, G.fn 12 ds S Q → wpSs G c12 (startD n12.length ds) S { nx := fun _ S' => Q .non S', rt := Q } := by
  rintro ds S Q ⟨n, d, rfl, h0, hb, hQ⟩
  unfold c12 n12
  simp only [DL.e_var, DL.e_con, DL.e_glo, DL.e_bin, DL.e_neg, DL.e_cmp, DL.e_chain, DL.e_and, DL.e_or, DL.e_not, DL.e_ite, DL.e_tup, DL.e_lst, DL.e_ix, DL.e_sl, DL.e_call, DL.e_callK, DL.e_bi, DL.e_isi, DL.e_lc, DL.es_nil, DL.es_cons, DL.o_no, DL.o_yes, DL.b_and, DL.b_or, DL.b_not, DL.b_cmp, DL.b_chain, DL.b_val, DL.bs_nil, DL.bs_cons, DL.g_name, DL.g_tup, DL.g_sub, DL.gs_nil, DL.gs_cons, DL.i_seq, DL.i_range1, DL.i_range2, DL.i_range3, DL.i_enum, DL.i_zip, DL.s_nil, DL.s_cons, DL.s_expr, DL.s_ret, DL.s_retN, DL.s_pass, DL.s_brk, DL.s_cont, DL.s_asg, DL.s_par2, DL.s_par3, DL.s_setLc, DL.s_augA, DL.s_augS, DL.s_append, DL.s_if, DL.s_while, DL.s_for, DL.o_add, DL.o_addT, DL.o_addL, DL.o_sub, DL.o_mul, DL.o_mulL, DL.o_fdiv, DL.o_mod, DL.o_pow, DL.o_shl, DL.o_shr, DL.q_lt, DL.q_le, DL.q_gt, DL.q_ge, DL.q_eqI, DL.q_neI, DL.q_eqS, DL.q_neS, DL.q_eqB, DL.q_neB, DL.q_isN, DL.q_notN, DL.q_isB, DL.q_notB, DL.t_bl, DL.t_int, DL.x_tup, DL.x_lst, DL.x_scr, DL.x_ref, DL.c_some, DL.n_f, DL.n_t, DL.f_lenT, DL.f_lenL, DL.f_lenC, DL.f_lenR, DL.f_abs, DL.f_min, DL.f_max, DL.f_intI, DL.f_intB, DL.f_tupT, DL.f_tupL, DL.f_tupR, DL.f_lstT, DL.f_lstL, DL.y_int, DL.y_bl, DL.y_str, DL.y_non, DL.y_tup, DL.y_lst, DL.z_tup, DL.z_lst, DL.z_enum, DL.isiD, DL.t_tup, DL.t_lst, DL.a_0, DL.a_1, DL.a_2, DL.a_3, DL.a_4, DL.a_5, DL.a_6, DL.ex_some, DL.ex_env, DL.ex_int, DL.ex_bl, DL.ex_ref, DL.ex_tup, DL.ex_int2, DL.ex_sub, DL.ex_cell, DL.ix_30, DL.ix_31, DL.ix_32, DL.CC.d, DL.startD, DL.wipeD, DL.i2, List.map_cons, List.map_nil, List.length_cons, List.length_nil, List.replicate, List.cons_append, List.nil_append, List.getElem?_cons_zero, List.getElem?_cons_succ, List.set_cons_zero, List.set_cons_succ, Nat.zero_add, Nat.reduceAdd, Nat.reduceSub, decide_eq_true_eq, Bool.not_eq_true', decide_eq_false_iff_not, if_true, Bool.false_eq_true, if_false, ite_true, ite_false, List.getD_cons_zero, List.getD_cons_succ, eq_self, not_true_eq_false, not_false_eq_true, Bool.true_eq_false, Bool.not_true, Bool.not_false, G11]
  refine ⟨n, d, rfl, ?_⟩
  have hp := gcd_pos' (n := n) h0
  have hl := gcd_le' (n := n) h0
  simp only [DL.e_var, DL.e_con, DL.e_glo, DL.e_bin, DL.e_neg, DL.e_cmp, DL.e_chain, DL.e_and, DL.e_or, DL.e_not, DL.e_ite, DL.e_tup, DL.e_lst, DL.e_ix, DL.e_sl, DL.e_call, DL.e_callK, DL.e_bi, DL.e_isi, DL.e_lc, DL.es_nil, DL.es_cons, DL.o_no, DL.o_yes, DL.b_and, DL.b_or, DL.b_not, DL.b_cmp, DL.b_chain, DL.b_val, DL.bs_nil, DL.bs_cons, DL.g_name, DL.g_tup, DL.g_sub, DL.gs_nil, DL.gs_cons, DL.i_seq, DL.i_range1, DL.i_range2, DL.i_range3, DL.i_enum, DL.i_zip, DL.s_nil, DL.s_cons, DL.s_expr, DL.s_ret, DL.s_retN, DL.s_pass, DL.s_brk, DL.s_cont, DL.s_asg, DL.s_par2, DL.s_par3, DL.s_setLc, DL.s_augA, DL.s_augS, DL.s_append, DL.s_if, DL.s_while, DL.s_for, DL.o_add, DL.o_addT, DL.o_addL, DL.o_sub, DL.o_mul, DL.o_mulL, DL.o_fdiv, DL.o_mod, DL.o_pow, DL.o_shl, DL.o_shr, DL.q_lt, DL.q_le, DL.q_gt, DL.q_ge, DL.q_eqI, DL.q_neI, DL.q_eqS, DL.q_neS, DL.q_eqB, DL.q_neB, DL.q_isN, DL.q_notN, DL.q_isB, DL.q_notB, DL.t_bl, DL.t_int, DL.x_tup, DL.x_lst, DL.x_scr, DL.x_ref, DL.c_some, DL.n_f, DL.n_t, DL.f_lenT, DL.f_lenL, DL.f_lenC, DL.f_lenR, DL.f_abs, DL.f_min, DL.f_max, DL.f_intI, DL.f_intB, DL.f_tupT, DL.f_tupL, DL.f_tupR, DL.f_lstT, DL.f_lstL, DL.y_int, DL.y_bl, DL.y_str, DL.y_non, DL.y_tup, DL.y_lst, DL.z_tup, DL.z_lst, DL.z_enum, DL.isiD, DL.t_tup, DL.t_lst, DL.a_0, DL.a_1, DL.a_2, DL.a_3, DL.a_4, DL.a_5, DL.a_6, DL.ex_some, DL.ex_env, DL.ex_int, DL.ex_bl, DL.ex_ref, DL.ex_tup, DL.ex_int2, DL.ex_sub, DL.ex_cell, DL.ix_30, DL.ix_31, DL.ix_32, DL.CC.d, DL.startD, DL.wipeD, DL.i2, List.map_cons, List.map_nil, List.length_cons, List.length_nil, List.replicate, List.cons_append, List.nil_append, List.getElem?_cons_zero, List.getElem?_cons_succ, List.set_cons_zero, List.set_cons_succ, Nat.zero_add, Nat.reduceAdd, Nat.reduceSub, decide_eq_true_eq, Bool.not_eq_true', decide_eq_false_iff_not, if_true, Bool.false_eq_true, if_false, ite_true, ite_false, List.getD_cons_zero, List.getD_cons_succ, eq_self, not_true_eq_false, not_false_eq_true, Bool.true_eq_false, Bool.not_true, Bool.not_false]
  have hd : DivOk ((Int.gcd n d : Nat) : Int) := div_small (by omega) (Nat.lt_trans (show _ < 2 ^ 20 by omega) (Nat.pow_lt_pow_right (by decide) (by decide)))
  refine ⟨hd, hd, ?_⟩
  rw [Int.fdiv_eq_ediv_of_nonneg _ (by omega), Int.fdiv_eq_ediv_of_nonneg _ (by omega)]
  exact hQ
theorem lt_of_get {S : DStore} {n : Nat} {c : Cell} (h : S[n]? = some c) : n < S.length := (List.getElem?_eq_some_iff.mp h).1
theorem body13 : ∀ ds S Q, G.fn 13 ds S Q → wpSs G c13 (startD n13.length ds) S { nx := fun _ S' => Q .non S', rt := Q } := by
  rintro ds S Q ⟨n, g, m, t, rfl, hS, ok, ht, hQ⟩
  unfold c13 n13
  simp only [DL.e_var, DL.e_con, DL.e_glo, DL.e_bin, DL.e_neg, DL.e_cmp, DL.e_chain, DL.e_and, DL.e_or, DL.e_not, DL.e_ite, DL.e_tup, DL.e_lst, DL.e_ix, DL.e_sl, DL.e_call, DL.e_callK, DL.e_bi, DL.e_isi, DL.e_lc, DL.es_nil, DL.es_cons, DL.o_no, DL.o_yes, DL.b_and, DL.b_or, DL.b_not, DL.b_cmp, DL.b_chain, DL.b_val, DL.bs_nil, DL.bs_cons, DL.g_name, DL.g_tup, DL.g_sub, DL.gs_nil, DL.gs_cons, DL.i_seq, DL.i_range1, DL.i_range2, DL.i_range3, DL.i_enum, DL.i_zip, DL.s_nil, DL.s_cons, DL.s_expr, DL.s_ret, DL.s_retN, DL.s_pass, DL.s_brk, DL.s_cont, DL.s_asg, DL.s_par2, DL.s_par3, DL.s_setLc, DL.s_augA, DL.s_augS, DL.s_append, DL.s_if, DL.s_while, DL.s_for, DL.o_add, DL.o_addT, DL.o_addL, DL.o_sub, DL.o_mul, DL.o_mulL, DL.o_fdiv, DL.o_mod, DL.o_pow, DL.o_shl, DL.o_shr, DL.q_lt, DL.q_le, DL.q_gt, DL.q_ge, DL.q_eqI, DL.q_neI, DL.q_eqS, DL.q_neS, DL.q_eqB, DL.q_neB, DL.q_isN, DL.q_notN, DL.q_isB, DL.q_notB, DL.t_bl, DL.t_int, DL.x_tup, DL.x_lst, DL.x_scr, DL.x_ref, DL.c_some, DL.n_f, DL.n_t, DL.f_lenT, DL.f_lenL, DL.f_lenC, DL.f_lenR, DL.f_abs, DL.f_min, DL.f_max, DL.f_intI, DL.f_intB, DL.f_tupT, DL.f_tupL, DL.f_tupR, DL.f_lstT, DL.f_lstL, DL.y_int, DL.y_bl, DL.y_str, DL.y_non, DL.y_tup, DL.y_lst, DL.z_tup, DL.z_lst, DL.z_enum, DL.isiD, DL.t_tup, DL.t_lst, DL.a_0, DL.a_1, DL.a_2, DL.a_3, DL.a_4, DL.a_5, DL.a_6, DL.ex_some, DL.ex_env, DL.ex_int, DL.ex_bl, DL.ex_ref, DL.ex_tup, DL.ex_int2, DL.ex_sub, DL.ex_cell, DL.ix_30, DL.ix_31, DL.ix_32, DL.CC.d, DL.startD, DL.wipeD, DL.i2, List.map_cons, List.map_nil, List.length_cons, List.length_nil, List.replicate, List.cons_append, List.nil_append, List.getElem?_cons_zero, List.getElem?_cons_succ, List.set_cons_zero, List.set_cons_succ, Nat.zero_add, Nat.reduceAdd, Nat.reduceSub, decide_eq_true_eq, Bool.not_eq_true', decide_eq_false_iff_not, if_true, Bool.false_eq_true, if_false, ite_true, ite_false, List.getD_cons_zero, List.getD_cons_succ, eq_self, not_true_eq_false, not_false_eq_true, Bool.true_eq_false, Bool.not_true, Bool.not_false, G8]
  refine takeA hS ok (by omega) (by decide) (by decide) fun v1 g t1 S1 _ _ ok ht1 hS1 => ?_
  (try simp only [DL.e_var, DL.e_con, DL.e_glo, DL.e_bin, DL.e_neg, DL.e_cmp, DL.e_chain, DL.e_and, DL.e_or, DL.e_not, DL.e_ite, DL.e_tup, DL.e_lst, DL.e_ix, DL.e_sl, DL.e_call, DL.e_callK, DL.e_bi, DL.e_isi, DL.e_lc, DL.es_nil, DL.es_cons, DL.o_no, DL.o_yes, DL.b_and, DL.b_or, DL.b_not, DL.b_cmp, DL.b_chain, DL.b_val, DL.bs_nil, DL.bs_cons, DL.g_name, DL.g_tup, DL.g_sub, DL.gs_nil, DL.gs_cons, DL.i_seq, DL.i_range1, DL.i_range2, DL.i_range3, DL.i_enum, DL.i_zip, DL.s_nil, DL.s_cons, DL.s_expr, DL.s_ret, DL.s_retN, DL.s_pass, DL.s_brk, DL.s_cont, DL.s_asg, DL.s_par2, DL.s_par3, DL.s_setLc, DL.s_augA, DL.s_augS, DL.s_append, DL.s_if, DL.s_while, DL.s_for, DL.o_add, DL.o_addT, DL.o_addL, DL.o_sub, DL.o_mul, DL.o_mulL, DL.o_fdiv, DL.o_mod, DL.o_pow, DL.o_shl, DL.o_shr, DL.q_lt, DL.q_le, DL.q_gt, DL.q_ge, DL.q_eqI, DL.q_neI, DL.q_eqS, DL.q_neS, DL.q_eqB, DL.q_neB, DL.q_isN, DL.q_notN, DL.q_isB, DL.q_notB, DL.t_bl, DL.t_int, DL.x_tup, DL.x_lst, DL.x_scr, DL.x_ref, DL.c_some, DL.n_f, DL.n_t, DL.f_lenT, DL.f_lenL, DL.f_lenC, DL.f_lenR, DL.f_abs, DL.f_min, DL.f_max, DL.f_intI, DL.f_intB, DL.f_tupT, DL.f_tupL, DL.f_tupR, DL.f_lstT, DL.f_lstL, DL.y_int, DL.y_bl, DL.y_str, DL.y_non, DL.y_tup, DL.y_lst, DL.z_tup, DL.z_lst, DL.z_enum, DL.isiD, DL.t_tup, DL.t_lst, DL.a_0, DL.a_1, DL.a_2, DL.a_3, DL.a_4, DL.a_5, DL.a_6, DL.ex_some, DL.ex_env, DL.ex_int, DL.ex_bl, DL.ex_ref, DL.ex_tup, DL.ex_int2, DL.ex_sub, DL.ex_cell, DL.ix_30, DL.ix_31, DL.ix_32, DL.CC.d, DL.startD, DL.wipeD, DL.i2, List.map_cons, List.map_nil, List.length_cons, List.length_nil, List.replicate, List.cons_append, List.nil_append, List.getElem?_cons_zero, List.getElem?_cons_succ, List.set_cons_zero, List.set_cons_succ, Nat.zero_add, Nat.reduceAdd, Nat.reduceSub, decide_eq_true_eq, Bool.not_eq_true', decide_eq_false_iff_not, if_true, Bool.false_eq_true, if_false, ite_true, ite_false, List.getD_cons_zero, List.getD_cons_succ, eq_self, not_true_eq_false, not_false_eq_true, Bool.true_eq_false, Bool.not_true, Bool.not_false, G9])
  have hn1 := lt_of_get hS1
  have hS1' : (S1 ++ [Cell.lst [.int (v1 - 20)]])[n]? = some (potC g m t1) := by rw [List.getElem?_append_left hn1]; exact hS1
  have hq1 : (S1 ++ [Cell.lst [.int (v1 - 20)]])[S1.length]? = some (.lst [.int (v1 - 20)]) := by simp
  have hqn : S1.length ≠ n := by omega
  generalize S1.length = q at *
  refine pickF hS1' ok (by omega) fun c g t2 S2 hy ok ht2 hS2 f2 => ?_
  have hq2 : S2[q]? = some (.lst [.int (v1 - 20)]) := (f2 q hqn).trans hq1
  obtain ⟨far, rfl, hf⟩ : ∃ k : Int, c = .int k ∧ 1 ≤ k ∧ k ≤ 9 := by
    simp only [List.mem_cons, List.not_mem_nil, or_false] at hy
    rcases hy with rfl | rfl | rfl <;> exact ⟨_, rfl, by omega, by omega⟩
  (try simp only [DL.e_var, DL.e_con, DL.e_glo, DL.e_bin, DL.e_neg, DL.e_cmp, DL.e_chain, DL.e_and, DL.e_or, DL.e_not, DL.e_ite, DL.e_tup, DL.e_lst, DL.e_ix, DL.e_sl, DL.e_call, DL.e_callK, DL.e_bi, DL.e_isi, DL.e_lc, DL.es_nil, DL.es_cons, DL.o_no, DL.o_yes, DL.b_and, DL.b_or, DL.b_not, DL.b_cmp, DL.b_chain, DL.b_val, DL.bs_nil, DL.bs_cons, DL.g_name, DL.g_tup, DL.g_sub, DL.gs_nil, DL.gs_cons, DL.i_seq, DL.i_range1, DL.i_range2, DL.i_range3, DL.i_enum, DL.i_zip, DL.s_nil, DL.s_cons, DL.s_expr, DL.s_ret, DL.s_retN, DL.s_pass, DL.s_brk, DL.s_cont, DL.s_asg, DL.s_par2, DL.s_par3, DL.s_setLc, DL.s_augA, DL.s_augS, DL.s_append, DL.s_if, DL.s_while, DL.s_for, DL.o_add, DL.o_addT, DL.o_addL, DL.o_sub, DL.o_mul, DL.o_mulL, DL.o_fdiv, DL.o_mod, DL.o_pow, DL.o_shl, DL.o_shr, DL.q_lt, DL.q_le, DL.q_gt, DL.q_ge, DL.q_eqI, DL.q_neI, DL.q_eqS, DL.q_neS, DL.q_eqB, DL.q_neB, DL.q_isN, DL.q_notN, DL.q_isB, DL.q_notB, DL.t_bl, DL.t_int, DL.x_tup, DL.x_lst, DL.x_scr, DL.x_ref, DL.c_some, DL.n_f, DL.n_t, DL.f_lenT, DL.f_lenL, DL.f_lenC, DL.f_lenR, DL.f_abs, DL.f_min, DL.f_max, DL.f_intI, DL.f_intB, DL.f_tupT, DL.f_tupL, DL.f_tupR, DL.f_lstT, DL.f_lstL, DL.y_int, DL.y_bl, DL.y_str, DL.y_non, DL.y_tup, DL.y_lst, DL.z_tup, DL.z_lst, DL.z_enum, DL.isiD, DL.t_tup, DL.t_lst, DL.a_0, DL.a_1, DL.a_2, DL.a_3, DL.a_4, DL.a_5, DL.a_6, DL.ex_some, DL.ex_env, DL.ex_int, DL.ex_bl, DL.ex_ref, DL.ex_tup, DL.ex_int2, DL.ex_sub, DL.ex_cell, DL.ix_30, DL.ix_31, DL.ix_32, DL.CC.d, DL.startD, DL.wipeD, DL.i2, List.map_cons, List.map_nil, List.length_cons, List.length_nil, List.replicate, List.cons_append, List.nil_append, List.getElem?_cons_zero, List.getElem?_cons_succ, List.set_cons_zero, List.set_cons_succ, Nat.zero_add, Nat.reduceAdd, Nat.reduceSub, decide_eq_true_eq, Bool.not_eq_true', decide_eq_false_iff_not, if_true, Bool.false_eq_true, if_false, ite_true, ite_false, List.getD_cons_zero, List.getD_cons_succ, eq_self, not_true_eq_false, not_false_eq_true, Bool.true_eq_false, Bool.not_true, Bool.not_false, G8])
  refine takeF hS2 ok (by omega) (by decide) (by decide) fun v2 g t3 S3 _ _ ok ht3 hS3 f3 => ?_
  have hq3 : S3[q]? = some (.lst [.int (v1 - 20)]) := (f3 q hqn).trans hq2
  (try simp only [DL.e_var, DL.e_con, DL.e_glo, DL.e_bin, DL.e_neg, DL.e_cmp, DL.e_chain, DL.e_and, DL.e_or, DL.e_not, DL.e_ite, DL.e_tup, DL.e_lst, DL.e_ix, DL.e_sl, DL.e_call, DL.e_callK, DL.e_bi, DL.e_isi, DL.e_lc, DL.es_nil, DL.es_cons, DL.o_no, DL.o_yes, DL.b_and, DL.b_or, DL.b_not, DL.b_cmp, DL.b_chain, DL.b_val, DL.bs_nil, DL.bs_cons, DL.g_name, DL.g_tup, DL.g_sub, DL.gs_nil, DL.gs_cons, DL.i_seq, DL.i_range1, DL.i_range2, DL.i_range3, DL.i_enum, DL.i_zip, DL.s_nil, DL.s_cons, DL.s_expr, DL.s_ret, DL.s_retN, DL.s_pass, DL.s_brk, DL.s_cont, DL.s_asg, DL.s_par2, DL.s_par3, DL.s_setLc, DL.s_augA, DL.s_augS, DL.s_append, DL.s_if, DL.s_while, DL.s_for, DL.o_add, DL.o_addT, DL.o_addL, DL.o_sub, DL.o_mul, DL.o_mulL, DL.o_fdiv, DL.o_mod, DL.o_pow, DL.o_shl, DL.o_shr, DL.q_lt, DL.q_le, DL.q_gt, DL.q_ge, DL.q_eqI, DL.q_neI, DL.q_eqS, DL.q_neS, DL.q_eqB, DL.q_neB, DL.q_isN, DL.q_notN, DL.q_isB, DL.q_notB, DL.t_bl, DL.t_int, DL.x_tup, DL.x_lst, DL.x_scr, DL.x_ref, DL.c_some, DL.n_f, DL.n_t, DL.f_lenT, DL.f_lenL, DL.f_lenC, DL.f_lenR, DL.f_abs, DL.f_min, DL.f_max, DL.f_intI, DL.f_intB, DL.f_tupT, DL.f_tupL, DL.f_tupR, DL.f_lstT, DL.f_lstL, DL.y_int, DL.y_bl, DL.y_str, DL.y_non, DL.y_tup, DL.y_lst, DL.z_tup, DL.z_lst, DL.z_enum, DL.isiD, DL.t_tup, DL.t_lst, DL.a_0, DL.a_1, DL.a_2, DL.a_3, DL.a_4, DL.a_5, DL.a_6, DL.ex_some, DL.ex_env, DL.ex_int, DL.ex_bl, DL.ex_ref, DL.ex_tup, DL.ex_int2, DL.ex_sub, DL.ex_cell, DL.ix_30, DL.ix_31, DL.ix_32, DL.CC.d, DL.startD, DL.wipeD, DL.i2, List.map_cons, List.map_nil, List.length_cons, List.length_nil, List.replicate, List.cons_append, List.nil_append, List.getElem?_cons_zero, List.getElem?_cons_succ, List.set_cons_zero, List.set_cons_succ, Nat.zero_add, Nat.reduceAdd, Nat.reduceSub, decide_eq_true_eq, Bool.not_eq_true', decide_eq_false_iff_not, if_true, Bool.false_eq_true, if_false, ite_true, ite_false, List.getD_cons_zero, List.getD_cons_succ, eq_self, not_true_eq_false, not_false_eq_true, Bool.true_eq_false, Bool.not_true, Bool.not_false])
  refine ⟨⟨by omega, by omega⟩, ?_⟩
  refine walk_range (fun i ρ S' => i ≤ 9 ∧ ∃ (g' t' : Int) (at' : Int) (gs : List Int) (r3 : Option D), ρ = [some (.ref n), some (.int 9), some (.int at'), r3, some (.ref q), some (.int far)] ∧ S'[n]? = some (potC g' m t') ∧ POk g' m t' ∧ t' ≤ t3 + i ∧ S'[q]? = some (.lst (gs.map D.int)) ∧ gs.length = i + 1 ∧ -(20 + 9 * (i : Int)) ≤ at' ∧ at' ≤ 20 + 9 * (i : Int) ∧ ∀ x ∈ gs, -110 ≤ x ∧ x ≤ 110)
    ⟨by omega, g, t3, v1 - 20, [v1 - 20], none, rfl, hS3, ok, by omega, hq3, rfl, by omega, by omega, fun x hx => by rw [List.mem_singleton.mp hx]; omega⟩ (fun _ _ _ _ => trivial) (fun i ρ S' hi hp => ?_) (fun ρ S' hp => ?_)
  · obtain ⟨hi9, g', t', at', gs, r3, rfl, hSn, ok', ht', hq, hl, ha1, ha2, hg⟩ := hp
    unfold DL.forTurn
    (try simp only [DL.e_var, DL.e_con, DL.e_glo, DL.e_bin, DL.e_neg, DL.e_cmp, DL.e_chain, DL.e_and, DL.e_or, DL.e_not, DL.e_ite, DL.e_tup, DL.e_lst, DL.e_ix, DL.e_sl, DL.e_call, DL.e_callK, DL.e_bi, DL.e_isi, DL.e_lc, DL.es_nil, DL.es_cons, DL.o_no, DL.o_yes, DL.b_and, DL.b_or, DL.b_not, DL.b_cmp, DL.b_chain, DL.b_val, DL.bs_nil, DL.bs_cons, DL.g_name, DL.g_tup, DL.g_sub, DL.gs_nil, DL.gs_cons, DL.i_seq, DL.i_range1, DL.i_range2, DL.i_range3, DL.i_enum, DL.i_zip, DL.s_nil, DL.s_cons, DL.s_expr, DL.s_ret, DL.s_retN, DL.s_pass, DL.s_brk, DL.s_cont, DL.s_asg, DL.s_par2, DL.s_par3, DL.s_setLc, DL.s_augA, DL.s_augS, DL.s_append, DL.s_if, DL.s_while, DL.s_for, DL.o_add, DL.o_addT, DL.o_addL, DL.o_sub, DL.o_mul, DL.o_mulL, DL.o_fdiv, DL.o_mod, DL.o_pow, DL.o_shl, DL.o_shr, DL.q_lt, DL.q_le, DL.q_gt, DL.q_ge, DL.q_eqI, DL.q_neI, DL.q_eqS, DL.q_neS, DL.q_eqB, DL.q_neB, DL.q_isN, DL.q_notN, DL.q_isB, DL.q_notB, DL.t_bl, DL.t_int, DL.x_tup, DL.x_lst, DL.x_scr, DL.x_ref, DL.c_some, DL.n_f, DL.n_t, DL.f_lenT, DL.f_lenL, DL.f_lenC, DL.f_lenR, DL.f_abs, DL.f_min, DL.f_max, DL.f_intI, DL.f_intB, DL.f_tupT, DL.f_tupL, DL.f_tupR, DL.f_lstT, DL.f_lstL, DL.y_int, DL.y_bl, DL.y_str, DL.y_non, DL.y_tup, DL.y_lst, DL.z_tup, DL.z_lst, DL.z_enum, DL.isiD, DL.t_tup, DL.t_lst, DL.a_0, DL.a_1, DL.a_2, DL.a_3, DL.a_4, DL.a_5, DL.a_6, DL.ex_some, DL.ex_env, DL.ex_int, DL.ex_bl, DL.ex_ref, DL.ex_tup, DL.ex_int2, DL.ex_sub, DL.ex_cell, DL.ix_30, DL.ix_31, DL.ix_32, DL.CC.d, DL.startD, DL.wipeD, DL.i2, List.map_cons, List.map_nil, List.length_cons, List.length_nil, List.replicate, List.cons_append, List.nil_append, List.getElem?_cons_zero, List.getElem?_cons_succ, List.set_cons_zero, List.set_cons_succ, Nat.zero_add, Nat.reduceAdd, Nat.reduceSub, decide_eq_true_eq, Bool.not_eq_true', decide_eq_false_iff_not, if_true, Bool.false_eq_true, if_false, ite_true, ite_false, List.getD_cons_zero, List.getD_cons_succ, eq_self, not_true_eq_false, not_false_eq_true, Bool.true_eq_false, Bool.not_true, Bool.not_false, G8])
    refine ⟨mul_small_left (by decide) (by decide), ?_⟩
    refine takeF hSn ok' (by omega) (by omega) (by omega) fun v3 g2 t4 S4 _ _ ok4 ht4 hS4 f4 => ?_
    have hq4 : S4[q]? = some (.lst (gs.map D.int)) := (f4 q hqn).trans hq
    (try simp only [DL.e_var, DL.e_con, DL.e_glo, DL.e_bin, DL.e_neg, DL.e_cmp, DL.e_chain, DL.e_and, DL.e_or, DL.e_not, DL.e_ite, DL.e_tup, DL.e_lst, DL.e_ix, DL.e_sl, DL.e_call, DL.e_callK, DL.e_bi, DL.e_isi, DL.e_lc, DL.es_nil, DL.es_cons, DL.o_no, DL.o_yes, DL.b_and, DL.b_or, DL.b_not, DL.b_cmp, DL.b_chain, DL.b_val, DL.bs_nil, DL.bs_cons, DL.g_name, DL.g_tup, DL.g_sub, DL.gs_nil, DL.gs_cons, DL.i_seq, DL.i_range1, DL.i_range2, DL.i_range3, DL.i_enum, DL.i_zip, DL.s_nil, DL.s_cons, DL.s_expr, DL.s_ret, DL.s_retN, DL.s_pass, DL.s_brk, DL.s_cont, DL.s_asg, DL.s_par2, DL.s_par3, DL.s_setLc, DL.s_augA, DL.s_augS, DL.s_append, DL.s_if, DL.s_while, DL.s_for, DL.o_add, DL.o_addT, DL.o_addL, DL.o_sub, DL.o_mul, DL.o_mulL, DL.o_fdiv, DL.o_mod, DL.o_pow, DL.o_shl, DL.o_shr, DL.q_lt, DL.q_le, DL.q_gt, DL.q_ge, DL.q_eqI, DL.q_neI, DL.q_eqS, DL.q_neS, DL.q_eqB, DL.q_neB, DL.q_isN, DL.q_notN, DL.q_isB, DL.q_notB, DL.t_bl, DL.t_int, DL.x_tup, DL.x_lst, DL.x_scr, DL.x_ref, DL.c_some, DL.n_f, DL.n_t, DL.f_lenT, DL.f_lenL, DL.f_lenC, DL.f_lenR, DL.f_abs, DL.f_min, DL.f_max, DL.f_intI, DL.f_intB, DL.f_tupT, DL.f_tupL, DL.f_tupR, DL.f_lstT, DL.f_lstL, DL.y_int, DL.y_bl, DL.y_str, DL.y_non, DL.y_tup, DL.y_lst, DL.z_tup, DL.z_lst, DL.z_enum, DL.isiD, DL.t_tup, DL.t_lst, DL.a_0, DL.a_1, DL.a_2, DL.a_3, DL.a_4, DL.a_5, DL.a_6, DL.ex_some, DL.ex_env, DL.ex_int, DL.ex_bl, DL.ex_ref, DL.ex_tup, DL.ex_int2, DL.ex_sub, DL.ex_cell, DL.ix_30, DL.ix_31, DL.ix_32, DL.CC.d, DL.startD, DL.wipeD, DL.i2, List.map_cons, List.map_nil, List.length_cons, List.length_nil, List.replicate, List.cons_append, List.nil_append, List.getElem?_cons_zero, List.getElem?_cons_succ, List.set_cons_zero, List.set_cons_succ, Nat.zero_add, Nat.reduceAdd, Nat.reduceSub, decide_eq_true_eq, Bool.not_eq_true', decide_eq_false_iff_not, if_true, Bool.false_eq_true, if_false, ite_true, ite_false, List.getD_cons_zero, List.getD_cons_succ, eq_self, not_true_eq_false, not_false_eq_true, Bool.true_eq_false, Bool.not_true, Bool.not_false])
    have hz : (200 : Nat) ≤ sizeLine := by decide
    refine ⟨lt_of_get hq4, _, hq4, by rw [List.length_map]; omega, by omega, g2, t4, _, gs ++ [at' + v3 - far], _, rfl, ?_, ok4, by omega, ?_, by simp [hl], by omega, by omega, ?_⟩
    · rw [List.getElem?_set_ne hqn]; exact hS4
    · rw [set_get hq4, List.map_append]; rfl
    · intro x hx
      rcases List.mem_append.mp hx with hx | hx
      · exact hg x hx
      · rw [List.mem_singleton.mp hx]; omega
  · obtain ⟨hi9, g', t', at', gs, r3, rfl, hSn, ok', ht', hq, hl, ha1, ha2, hg⟩ := hp
    (try simp only [DL.e_var, DL.e_con, DL.e_glo, DL.e_bin, DL.e_neg, DL.e_cmp, DL.e_chain, DL.e_and, DL.e_or, DL.e_not, DL.e_ite, DL.e_tup, DL.e_lst, DL.e_ix, DL.e_sl, DL.e_call, DL.e_callK, DL.e_bi, DL.e_isi, DL.e_lc, DL.es_nil, DL.es_cons, DL.o_no, DL.o_yes, DL.b_and, DL.b_or, DL.b_not, DL.b_cmp, DL.b_chain, DL.b_val, DL.bs_nil, DL.bs_cons, DL.g_name, DL.g_tup, DL.g_sub, DL.gs_nil, DL.gs_cons, DL.i_seq, DL.i_range1, DL.i_range2, DL.i_range3, DL.i_enum, DL.i_zip, DL.s_nil, DL.s_cons, DL.s_expr, DL.s_ret, DL.s_retN, DL.s_pass, DL.s_brk, DL.s_cont, DL.s_asg, DL.s_par2, DL.s_par3, DL.s_setLc, DL.s_augA, DL.s_augS, DL.s_append, DL.s_if, DL.s_while, DL.s_for, DL.o_add, DL.o_addT, DL.o_addL, DL.o_sub, DL.o_mul, DL.o_mulL, DL.o_fdiv, DL.o_mod, DL.o_pow, DL.o_shl, DL.o_shr, DL.q_lt, DL.q_le, DL.q_gt, DL.q_ge, DL.q_eqI, DL.q_neI, DL.q_eqS, DL.q_neS, DL.q_eqB, DL.q_neB, DL.q_isN, DL.q_notN, DL.q_isB, DL.q_notB, DL.t_bl, DL.t_int, DL.x_tup, DL.x_lst, DL.x_scr, DL.x_ref, DL.c_some, DL.n_f, DL.n_t, DL.f_lenT, DL.f_lenL, DL.f_lenC, DL.f_lenR, DL.f_abs, DL.f_min, DL.f_max, DL.f_intI, DL.f_intB, DL.f_tupT, DL.f_tupL, DL.f_tupR, DL.f_lstT, DL.f_lstL, DL.y_int, DL.y_bl, DL.y_str, DL.y_non, DL.y_tup, DL.y_lst, DL.z_tup, DL.z_lst, DL.z_enum, DL.isiD, DL.t_tup, DL.t_lst, DL.a_0, DL.a_1, DL.a_2, DL.a_3, DL.a_4, DL.a_5, DL.a_6, DL.ex_some, DL.ex_env, DL.ex_int, DL.ex_bl, DL.ex_ref, DL.ex_tup, DL.ex_int2, DL.ex_sub, DL.ex_cell, DL.ix_30, DL.ix_31, DL.ix_32, DL.CC.d, DL.startD, DL.wipeD, DL.i2, List.map_cons, List.map_nil, List.length_cons, List.length_nil, List.replicate, List.cons_append, List.nil_append, List.getElem?_cons_zero, List.getElem?_cons_succ, List.set_cons_zero, List.set_cons_succ, Nat.zero_add, Nat.reduceAdd, Nat.reduceSub, decide_eq_true_eq, Bool.not_eq_true', decide_eq_false_iff_not, if_true, Bool.false_eq_true, if_false, ite_true, ite_false, List.getD_cons_zero, List.getD_cons_succ, eq_self, not_true_eq_false, not_false_eq_true, Bool.true_eq_false, Bool.not_true, Bool.not_false, hq])
    exact hQ gs g' t' S' (by omega) (by omega) hg ok' (by omega) hSn
theorem body15 : ∀ ds S Q, G.fn 15 ds S Q → wpSs G c15 (startD n15.length ds) S { nx := fun _ S' => Q .non S', rt := Q } := by
  rintro ds S Q ⟨n, d, rfl, h0, hb, hn1, hn2, hQ⟩
  unfold c15 n15
  simp only [DL.e_var, DL.e_con, DL.e_glo, DL.e_bin, DL.e_neg, DL.e_cmp, DL.e_chain, DL.e_and, DL.e_or, DL.e_not, DL.e_ite, DL.e_tup, DL.e_lst, DL.e_ix, DL.e_sl, DL.e_call, DL.e_callK, DL.e_bi, DL.e_isi, DL.e_lc, DL.es_nil, DL.es_cons, DL.o_no, DL.o_yes, DL.b_and, DL.b_or, DL.b_not, DL.b_cmp, DL.b_chain, DL.b_val, DL.bs_nil, DL.bs_cons, DL.g_name, DL.g_tup, DL.g_sub, DL.gs_nil, DL.gs_cons, DL.i_seq, DL.i_range1, DL.i_range2, DL.i_range3, DL.i_enum, DL.i_zip, DL.s_nil, DL.s_cons, DL.s_expr, DL.s_ret, DL.s_retN, DL.s_pass, DL.s_brk, DL.s_cont, DL.s_asg, DL.s_par2, DL.s_par3, DL.s_setLc, DL.s_augA, DL.s_augS, DL.s_append, DL.s_if, DL.s_while, DL.s_for, DL.o_add, DL.o_addT, DL.o_addL, DL.o_sub, DL.o_mul, DL.o_mulL, DL.o_fdiv, DL.o_mod, DL.o_pow, DL.o_shl, DL.o_shr, DL.q_lt, DL.q_le, DL.q_gt, DL.q_ge, DL.q_eqI, DL.q_neI, DL.q_eqS, DL.q_neS, DL.q_eqB, DL.q_neB, DL.q_isN, DL.q_notN, DL.q_isB, DL.q_notB, DL.t_bl, DL.t_int, DL.x_tup, DL.x_lst, DL.x_scr, DL.x_ref, DL.c_some, DL.n_f, DL.n_t, DL.f_lenT, DL.f_lenL, DL.f_lenC, DL.f_lenR, DL.f_abs, DL.f_min, DL.f_max, DL.f_intI, DL.f_intB, DL.f_tupT, DL.f_tupL, DL.f_tupR, DL.f_lstT, DL.f_lstL, DL.y_int, DL.y_bl, DL.y_str, DL.y_non, DL.y_tup, DL.y_lst, DL.z_tup, DL.z_lst, DL.z_enum, DL.isiD, DL.t_tup, DL.t_lst, DL.a_0, DL.a_1, DL.a_2, DL.a_3, DL.a_4, DL.a_5, DL.a_6, DL.ex_some, DL.ex_env, DL.ex_int, DL.ex_bl, DL.ex_ref, DL.ex_tup, DL.ex_int2, DL.ex_sub, DL.ex_cell, DL.ix_30, DL.ix_31, DL.ix_32, DL.CC.d, DL.startD, DL.wipeD, DL.i2, List.map_cons, List.map_nil, List.length_cons, List.length_nil, List.replicate, List.cons_append, List.nil_append, List.getElem?_cons_zero, List.getElem?_cons_succ, List.set_cons_zero, List.set_cons_succ, Nat.zero_add, Nat.reduceAdd, Nat.reduceSub, decide_eq_true_eq, Bool.not_eq_true', decide_eq_false_iff_not, if_true, Bool.false_eq_true, if_false, ite_true, ite_false, List.getD_cons_zero, List.getD_cons_succ, eq_self, not_true_eq_false, not_false_eq_true, Bool.true_eq_false, Bool.not_true, Bool.not_false, Bool.not_true, Bool.not_false]
  rw [if_neg (by decide)]
  refine gather_const (v := .bl false) (by show 2 ≤ sizeLine; decide) trivial (fun x hx N hN => ?_) ?_
  · obtain ⟨k, rfl⟩ : ∃ k : Int, x = .int k := by
      simp only [List.mem_cons, List.not_mem_nil, or_false] at hx
      rcases hx with rfl | rfl <;> exact ⟨_, rfl⟩
    unfold lcTurn
    (try simp only [DL.e_var, DL.e_con, DL.e_glo, DL.e_bin, DL.e_neg, DL.e_cmp, DL.e_chain, DL.e_and, DL.e_or, DL.e_not, DL.e_ite, DL.e_tup, DL.e_lst, DL.e_ix, DL.e_sl, DL.e_call, DL.e_callK, DL.e_bi, DL.e_isi, DL.e_lc, DL.es_nil, DL.es_cons, DL.o_no, DL.o_yes, DL.b_and, DL.b_or, DL.b_not, DL.b_cmp, DL.b_chain, DL.b_val, DL.bs_nil, DL.bs_cons, DL.g_name, DL.g_tup, DL.g_sub, DL.gs_nil, DL.gs_cons, DL.i_seq, DL.i_range1, DL.i_range2, DL.i_range3, DL.i_enum, DL.i_zip, DL.s_nil, DL.s_cons, DL.s_expr, DL.s_ret, DL.s_retN, DL.s_pass, DL.s_brk, DL.s_cont, DL.s_asg, DL.s_par2, DL.s_par3, DL.s_setLc, DL.s_augA, DL.s_augS, DL.s_append, DL.s_if, DL.s_while, DL.s_for, DL.o_add, DL.o_addT, DL.o_addL, DL.o_sub, DL.o_mul, DL.o_mulL, DL.o_fdiv, DL.o_mod, DL.o_pow, DL.o_shl, DL.o_shr, DL.q_lt, DL.q_le, DL.q_gt, DL.q_ge, DL.q_eqI, DL.q_neI, DL.q_eqS, DL.q_neS, DL.q_eqB, DL.q_neB, DL.q_isN, DL.q_notN, DL.q_isB, DL.q_notB, DL.t_bl, DL.t_int, DL.x_tup, DL.x_lst, DL.x_scr, DL.x_ref, DL.c_some, DL.n_f, DL.n_t, DL.f_lenT, DL.f_lenL, DL.f_lenC, DL.f_lenR, DL.f_abs, DL.f_min, DL.f_max, DL.f_intI, DL.f_intB, DL.f_tupT, DL.f_tupL, DL.f_tupR, DL.f_lstT, DL.f_lstL, DL.y_int, DL.y_bl, DL.y_str, DL.y_non, DL.y_tup, DL.y_lst, DL.z_tup, DL.z_lst, DL.z_enum, DL.isiD, DL.t_tup, DL.t_lst, DL.a_0, DL.a_1, DL.a_2, DL.a_3, DL.a_4, DL.a_5, DL.a_6, DL.ex_some, DL.ex_env, DL.ex_int, DL.ex_bl, DL.ex_ref, DL.ex_tup, DL.ex_int2, DL.ex_sub, DL.ex_cell, DL.ix_30, DL.ix_31, DL.ix_32, DL.CC.d, DL.startD, DL.wipeD, DL.i2, List.map_cons, List.map_nil, List.length_cons, List.length_nil, List.replicate, List.cons_append, List.nil_append, List.getElem?_cons_zero, List.getElem?_cons_succ, List.set_cons_zero, List.set_cons_succ, Nat.zero_add, Nat.reduceAdd, Nat.reduceSub, decide_eq_true_eq, Bool.not_eq_true', decide_eq_false_iff_not, if_true, Bool.false_eq_true, if_false, ite_true, ite_false, List.getD_cons_zero, List.getD_cons_succ, eq_self, not_true_eq_false, not_false_eq_true, Bool.true_eq_false, Bool.not_true, Bool.not_false])
    exact hN
  (try simp only [DL.e_var, DL.e_con, DL.e_glo, DL.e_bin, DL.e_neg, DL.e_cmp, DL.e_chain, DL.e_and, DL.e_or, DL.e_not, DL.e_ite, DL.e_tup, DL.e_lst, DL.e_ix, DL.e_sl, DL.e_call, DL.e_callK, DL.e_bi, DL.e_isi, DL.e_lc, DL.es_nil, DL.es_cons, DL.o_no, DL.o_yes, DL.b_and, DL.b_or, DL.b_not, DL.b_cmp, DL.b_chain, DL.b_val, DL.bs_nil, DL.bs_cons, DL.g_name, DL.g_tup, DL.g_sub, DL.gs_nil, DL.gs_cons, DL.i_seq, DL.i_range1, DL.i_range2, DL.i_range3, DL.i_enum, DL.i_zip, DL.s_nil, DL.s_cons, DL.s_expr, DL.s_ret, DL.s_retN, DL.s_pass, DL.s_brk, DL.s_cont, DL.s_asg, DL.s_par2, DL.s_par3, DL.s_setLc, DL.s_augA, DL.s_augS, DL.s_append, DL.s_if, DL.s_while, DL.s_for, DL.o_add, DL.o_addT, DL.o_addL, DL.o_sub, DL.o_mul, DL.o_mulL, DL.o_fdiv, DL.o_mod, DL.o_pow, DL.o_shl, DL.o_shr, DL.q_lt, DL.q_le, DL.q_gt, DL.q_ge, DL.q_eqI, DL.q_neI, DL.q_eqS, DL.q_neS, DL.q_eqB, DL.q_neB, DL.q_isN, DL.q_notN, DL.q_isB, DL.q_notB, DL.t_bl, DL.t_int, DL.x_tup, DL.x_lst, DL.x_scr, DL.x_ref, DL.c_some, DL.n_f, DL.n_t, DL.f_lenT, DL.f_lenL, DL.f_lenC, DL.f_lenR, DL.f_abs, DL.f_min, DL.f_max, DL.f_intI, DL.f_intB, DL.f_tupT, DL.f_tupL, DL.f_tupR, DL.f_lstT, DL.f_lstL, DL.y_int, DL.y_bl, DL.y_str, DL.y_non, DL.y_tup, DL.y_lst, DL.z_tup, DL.z_lst, DL.z_enum, DL.isiD, DL.t_tup, DL.t_lst, DL.a_0, DL.a_1, DL.a_2, DL.a_3, DL.a_4, DL.a_5, DL.a_6, DL.ex_some, DL.ex_env, DL.ex_int, DL.ex_bl, DL.ex_ref, DL.ex_tup, DL.ex_int2, DL.ex_sub, DL.ex_cell, DL.ix_30, DL.ix_31, DL.ix_32, DL.CC.d, DL.startD, DL.wipeD, DL.i2, List.map_cons, List.map_nil, List.length_cons, List.length_nil, List.replicate, List.cons_append, List.nil_append, List.getElem?_cons_zero, List.getElem?_cons_succ, List.set_cons_zero, List.set_cons_succ, Nat.zero_add, Nat.reduceAdd, Nat.reduceSub, decide_eq_true_eq, Bool.not_eq_true', decide_eq_false_iff_not, if_true, Bool.false_eq_true, if_false, ite_true, ite_false, List.getD_cons_zero, List.getD_cons_succ, eq_self, not_true_eq_false, not_false_eq_true, Bool.true_eq_false, Bool.not_true, Bool.not_false, flat_rep])
  refine ⟨by decide, by decide, by decide, ?_⟩
  have e2 : List.replicate (2 : Int).toNat (D.bl false) = [.bl false, .bl false] := rfl
  (try simp only [DL.e_var, DL.e_con, DL.e_glo, DL.e_bin, DL.e_neg, DL.e_cmp, DL.e_chain, DL.e_and, DL.e_or, DL.e_not, DL.e_ite, DL.e_tup, DL.e_lst, DL.e_ix, DL.e_sl, DL.e_call, DL.e_callK, DL.e_bi, DL.e_isi, DL.e_lc, DL.es_nil, DL.es_cons, DL.o_no, DL.o_yes, DL.b_and, DL.b_or, DL.b_not, DL.b_cmp, DL.b_chain, DL.b_val, DL.bs_nil, DL.bs_cons, DL.g_name, DL.g_tup, DL.g_sub, DL.gs_nil, DL.gs_cons, DL.i_seq, DL.i_range1, DL.i_range2, DL.i_range3, DL.i_enum, DL.i_zip, DL.s_nil, DL.s_cons, DL.s_expr, DL.s_ret, DL.s_retN, DL.s_pass, DL.s_brk, DL.s_cont, DL.s_asg, DL.s_par2, DL.s_par3, DL.s_setLc, DL.s_augA, DL.s_augS, DL.s_append, DL.s_if, DL.s_while, DL.s_for, DL.o_add, DL.o_addT, DL.o_addL, DL.o_sub, DL.o_mul, DL.o_mulL, DL.o_fdiv, DL.o_mod, DL.o_pow, DL.o_shl, DL.o_shr, DL.q_lt, DL.q_le, DL.q_gt, DL.q_ge, DL.q_eqI, DL.q_neI, DL.q_eqS, DL.q_neS, DL.q_eqB, DL.q_neB, DL.q_isN, DL.q_notN, DL.q_isB, DL.q_notB, DL.t_bl, DL.t_int, DL.x_tup, DL.x_lst, DL.x_scr, DL.x_ref, DL.c_some, DL.n_f, DL.n_t, DL.f_lenT, DL.f_lenL, DL.f_lenC, DL.f_lenR, DL.f_abs, DL.f_min, DL.f_max, DL.f_intI, DL.f_intB, DL.f_tupT, DL.f_tupL, DL.f_tupR, DL.f_lstT, DL.f_lstL, DL.y_int, DL.y_bl, DL.y_str, DL.y_non, DL.y_tup, DL.y_lst, DL.z_tup, DL.z_lst, DL.z_enum, DL.isiD, DL.t_tup, DL.t_lst, DL.a_0, DL.a_1, DL.a_2, DL.a_3, DL.a_4, DL.a_5, DL.a_6, DL.ex_some, DL.ex_env, DL.ex_int, DL.ex_bl, DL.ex_ref, DL.ex_tup, DL.ex_int2, DL.ex_sub, DL.ex_cell, DL.ix_30, DL.ix_31, DL.ix_32, DL.CC.d, DL.startD, DL.wipeD, DL.i2, List.map_cons, List.map_nil, List.length_cons, List.length_nil, List.replicate, List.cons_append, List.nil_append, List.getElem?_cons_zero, List.getElem?_cons_succ, List.set_cons_zero, List.set_cons_succ, Nat.zero_add, Nat.reduceAdd, Nat.reduceSub, decide_eq_true_eq, Bool.not_eq_true', decide_eq_false_iff_not, if_true, Bool.false_eq_true, if_false, ite_true, ite_false, List.getD_cons_zero, List.getD_cons_succ, eq_self, not_true_eq_false, not_false_eq_true, Bool.true_eq_false, Bool.not_true, Bool.not_false, e2])
  refine ne_same (p := .list [.bool false, .bool false]) (fun _ z => nomatch z) (fun _ z => nomatch z) (fun _ z => nomatch z) rfl rfl ?_
  (try simp only [DL.e_var, DL.e_con, DL.e_glo, DL.e_bin, DL.e_neg, DL.e_cmp, DL.e_chain, DL.e_and, DL.e_or, DL.e_not, DL.e_ite, DL.e_tup, DL.e_lst, DL.e_ix, DL.e_sl, DL.e_call, DL.e_callK, DL.e_bi, DL.e_isi, DL.e_lc, DL.es_nil, DL.es_cons, DL.o_no, DL.o_yes, DL.b_and, DL.b_or, DL.b_not, DL.b_cmp, DL.b_chain, DL.b_val, DL.bs_nil, DL.bs_cons, DL.g_name, DL.g_tup, DL.g_sub, DL.gs_nil, DL.gs_cons, DL.i_seq, DL.i_range1, DL.i_range2, DL.i_range3, DL.i_enum, DL.i_zip, DL.s_nil, DL.s_cons, DL.s_expr, DL.s_ret, DL.s_retN, DL.s_pass, DL.s_brk, DL.s_cont, DL.s_asg, DL.s_par2, DL.s_par3, DL.s_setLc, DL.s_augA, DL.s_augS, DL.s_append, DL.s_if, DL.s_while, DL.s_for, DL.o_add, DL.o_addT, DL.o_addL, DL.o_sub, DL.o_mul, DL.o_mulL, DL.o_fdiv, DL.o_mod, DL.o_pow, DL.o_shl, DL.o_shr, DL.q_lt, DL.q_le, DL.q_gt, DL.q_ge, DL.q_eqI, DL.q_neI, DL.q_eqS, DL.q_neS, DL.q_eqB, DL.q_neB, DL.q_isN, DL.q_notN, DL.q_isB, DL.q_notB, DL.t_bl, DL.t_int, DL.x_tup, DL.x_lst, DL.x_scr, DL.x_ref, DL.c_some, DL.n_f, DL.n_t, DL.f_lenT, DL.f_lenL, DL.f_lenC, DL.f_lenR, DL.f_abs, DL.f_min, DL.f_max, DL.f_intI, DL.f_intB, DL.f_tupT, DL.f_tupL, DL.f_tupR, DL.f_lstT, DL.f_lstL, DL.y_int, DL.y_bl, DL.y_str, DL.y_non, DL.y_tup, DL.y_lst, DL.z_tup, DL.z_lst, DL.z_enum, DL.isiD, DL.t_tup, DL.t_lst, DL.a_0, DL.a_1, DL.a_2, DL.a_3, DL.a_4, DL.a_5, DL.a_6, DL.ex_some, DL.ex_env, DL.ex_int, DL.ex_bl, DL.ex_ref, DL.ex_tup, DL.ex_int2, DL.ex_sub, DL.ex_cell, DL.ix_30, DL.ix_31, DL.ix_32, DL.CC.d, DL.startD, DL.wipeD, DL.i2, List.map_cons, List.map_nil, List.length_cons, List.length_nil, List.replicate, List.cons_append, List.nil_append, List.getElem?_cons_zero, List.getElem?_cons_succ, List.set_cons_zero, List.set_cons_succ, Nat.zero_add, Nat.reduceAdd, Nat.reduceSub, decide_eq_true_eq, Bool.not_eq_true', decide_eq_false_iff_not, if_true, Bool.false_eq_true, if_false, ite_true, ite_false, List.getD_cons_zero, List.getD_cons_succ, eq_self, not_true_eq_false, not_false_eq_true, Bool.true_eq_false, Bool.not_true, Bool.not_false, Bool.not_true, Bool.not_false, G12])
  have hp := gcd_pos' (n := n) h0
  have hl := gcd_le' (n := n) h0
  have hg : (1 : Int) ≤ ((Int.gcd n d : Nat) : Int) := by omega
  have b1 : -100000000000 ≤ n / (Int.gcd n d : Nat) ∧ n / (Int.gcd n d : Nat) ≤ 100000000000 := by
    generalize ((Int.gcd n d : Nat) : Int) = k at hg
    constructor
    · rw [Int.le_ediv_iff_mul_le (by omega)]; omega
    · rcases Int.le_total 0 n with h | h
      · exact Int.le_trans (Int.ediv_le_self _ h) hn2
      · have : n / k ≤ 0 := Int.ediv_nonpos_of_nonpos_of_neg (by omega) (by omega)
        omega
  have b2 : 0 ≤ d / (Int.gcd n d : Nat) ∧ d / (Int.gcd n d : Nat) ≤ d := ⟨Int.ediv_nonneg (by omega) (by omega), Int.ediv_le_self _ (by omega)⟩
  have k1 : okP (.tuple [.int (n / (Int.gcd n d : Nat)), .int (d / (Int.gcd n d : Nat))]) = true := by (simp only [okP, okPs, Bool.and_eq_true, decide_eq_true_eq, eq_self, and_true]); omega
  refine repr4 rfl k1 ⟨n, d, rfl, h0, hb, ?_⟩
  (try simp only [DL.e_var, DL.e_con, DL.e_glo, DL.e_bin, DL.e_neg, DL.e_cmp, DL.e_chain, DL.e_and, DL.e_or, DL.e_not, DL.e_ite, DL.e_tup, DL.e_lst, DL.e_ix, DL.e_sl, DL.e_call, DL.e_callK, DL.e_bi, DL.e_isi, DL.e_lc, DL.es_nil, DL.es_cons, DL.o_no, DL.o_yes, DL.b_and, DL.b_or, DL.b_not, DL.b_cmp, DL.b_chain, DL.b_val, DL.bs_nil, DL.bs_cons, DL.g_name, DL.g_tup, DL.g_sub, DL.gs_nil, DL.gs_cons, DL.i_seq, DL.i_range1, DL.i_range2, DL.i_range3, DL.i_enum, DL.i_zip, DL.s_nil, DL.s_cons, DL.s_expr, DL.s_ret, DL.s_retN, DL.s_pass, DL.s_brk, DL.s_cont, DL.s_asg, DL.s_par2, DL.s_par3, DL.s_setLc, DL.s_augA, DL.s_augS, DL.s_append, DL.s_if, DL.s_while, DL.s_for, DL.o_add, DL.o_addT, DL.o_addL, DL.o_sub, DL.o_mul, DL.o_mulL, DL.o_fdiv, DL.o_mod, DL.o_pow, DL.o_shl, DL.o_shr, DL.q_lt, DL.q_le, DL.q_gt, DL.q_ge, DL.q_eqI, DL.q_neI, DL.q_eqS, DL.q_neS, DL.q_eqB, DL.q_neB, DL.q_isN, DL.q_notN, DL.q_isB, DL.q_notB, DL.t_bl, DL.t_int, DL.x_tup, DL.x_lst, DL.x_scr, DL.x_ref, DL.c_some, DL.n_f, DL.n_t, DL.f_lenT, DL.f_lenL, DL.f_lenC, DL.f_lenR, DL.f_abs, DL.f_min, DL.f_max, DL.f_intI, DL.f_intB, DL.f_tupT, DL.f_tupL, DL.f_tupR, DL.f_lstT, DL.f_lstL, DL.y_int, DL.y_bl, DL.y_str, DL.y_non, DL.y_tup, DL.y_lst, DL.z_tup, DL.z_lst, DL.z_enum, DL.isiD, DL.t_tup, DL.t_lst, DL.a_0, DL.a_1, DL.a_2, DL.a_3, DL.a_4, DL.a_5, DL.a_6, DL.ex_some, DL.ex_env, DL.ex_int, DL.ex_bl, DL.ex_ref, DL.ex_tup, DL.ex_int2, DL.ex_sub, DL.ex_cell, DL.ix_30, DL.ix_31, DL.ix_32, DL.CC.d, DL.startD, DL.wipeD, DL.i2, List.map_cons, List.map_nil, List.length_cons, List.length_nil, List.replicate, List.cons_append, List.nil_append, List.getElem?_cons_zero, List.getElem?_cons_succ, List.set_cons_zero, List.set_cons_succ, Nat.zero_add, Nat.reduceAdd, Nat.reduceSub, decide_eq_true_eq, Bool.not_eq_true', decide_eq_false_iff_not, if_true, Bool.false_eq_true, if_false, ite_true, ite_false, List.getD_cons_zero, List.getD_cons_succ, eq_self, not_true_eq_false, not_false_eq_true, Bool.true_eq_false, Bool.not_true, Bool.not_false])
  refine repr4 rfl k1 ?_
  (try simp only [DL.e_var, DL.e_con, DL.e_glo, DL.e_bin, DL.e_neg, DL.e_cmp, DL.e_chain, DL.e_and, DL.e_or, DL.e_not, DL.e_ite, DL.e_tup, DL.e_lst, DL.e_ix, DL.e_sl, DL.e_call, DL.e_callK, DL.e_bi, DL.e_isi, DL.e_lc, DL.es_nil, DL.es_cons, DL.o_no, DL.o_yes, DL.b_and, DL.b_or, DL.b_not, DL.b_cmp, DL.b_chain, DL.b_val, DL.bs_nil, DL.bs_cons, DL.g_name, DL.g_tup, DL.g_sub, DL.gs_nil, DL.gs_cons, DL.i_seq, DL.i_range1, DL.i_range2, DL.i_range3, DL.i_enum, DL.i_zip, DL.s_nil, DL.s_cons, DL.s_expr, DL.s_ret, DL.s_retN, DL.s_pass, DL.s_brk, DL.s_cont, DL.s_asg, DL.s_par2, DL.s_par3, DL.s_setLc, DL.s_augA, DL.s_augS, DL.s_append, DL.s_if, DL.s_while, DL.s_for, DL.o_add, DL.o_addT, DL.o_addL, DL.o_sub, DL.o_mul, DL.o_mulL, DL.o_fdiv, DL.o_mod, DL.o_pow, DL.o_shl, DL.o_shr, DL.q_lt, DL.q_le, DL.q_gt, DL.q_ge, DL.q_eqI, DL.q_neI, DL.q_eqS, DL.q_neS, DL.q_eqB, DL.q_neB, DL.q_isN, DL.q_notN, DL.q_isB, DL.q_notB, DL.t_bl, DL.t_int, DL.x_tup, DL.x_lst, DL.x_scr, DL.x_ref, DL.c_some, DL.n_f, DL.n_t, DL.f_lenT, DL.f_lenL, DL.f_lenC, DL.f_lenR, DL.f_abs, DL.f_min, DL.f_max, DL.f_intI, DL.f_intB, DL.f_tupT, DL.f_tupL, DL.f_tupR, DL.f_lstT, DL.f_lstL, DL.y_int, DL.y_bl, DL.y_str, DL.y_non, DL.y_tup, DL.y_lst, DL.z_tup, DL.z_lst, DL.z_enum, DL.isiD, DL.t_tup, DL.t_lst, DL.a_0, DL.a_1, DL.a_2, DL.a_3, DL.a_4, DL.a_5, DL.a_6, DL.ex_some, DL.ex_env, DL.ex_int, DL.ex_bl, DL.ex_ref, DL.ex_tup, DL.ex_int2, DL.ex_sub, DL.ex_cell, DL.ix_30, DL.ix_31, DL.ix_32, DL.CC.d, DL.startD, DL.wipeD, DL.i2, List.map_cons, List.map_nil, List.length_cons, List.length_nil, List.replicate, List.cons_append, List.nil_append, List.getElem?_cons_zero, List.getElem?_cons_succ, List.set_cons_zero, List.set_cons_succ, Nat.zero_add, Nat.reduceAdd, Nat.reduceSub, decide_eq_true_eq, Bool.not_eq_true', decide_eq_false_iff_not, if_true, Bool.false_eq_true, if_false, ite_true, ite_false, List.getD_cons_zero, List.getD_cons_succ, eq_self, not_true_eq_false, not_false_eq_true, Bool.true_eq_false, Bool.not_true, Bool.not_false])
  simpa using hQ
theorem body16 : ∀ ds S Q, G.fn 16 ds S Q → wpSs G c16 (startD n16.length ds) S { nx := fun _ S' => Q .non S', rt := Q } := by
  rintro ds S Q ⟨a, b, f, bits, X, V, P, y, y0, rfl, r, hQ⟩
  have h := r.h
  have := h.f1; have := h.f2; have := r.a1; have := r.a2; have := r.b1; have := r.b2; have := r.x1; have := r.x2; have := r.v1; have := r.v2; have := r.p1; have := r.p2; have := r.y1; have := r.y2; have := r.z1; have := r.z2
  have hp := pw2_pos f
  have hp2 := pw2_le (f := f) (k := 8) (by omega)
  unfold c16 n16 hndD wshD
  simp only [DL.e_var, DL.e_con, DL.e_glo, DL.e_bin, DL.e_neg, DL.e_cmp, DL.e_chain, DL.e_and, DL.e_or, DL.e_not, DL.e_ite, DL.e_tup, DL.e_lst, DL.e_ix, DL.e_sl, DL.e_call, DL.e_callK, DL.e_bi, DL.e_isi, DL.e_lc, DL.es_nil, DL.es_cons, DL.o_no, DL.o_yes, DL.b_and, DL.b_or, DL.b_not, DL.b_cmp, DL.b_chain, DL.b_val, DL.bs_nil, DL.bs_cons, DL.g_name, DL.g_tup, DL.g_sub, DL.gs_nil, DL.gs_cons, DL.i_seq, DL.i_range1, DL.i_range2, DL.i_range3, DL.i_enum, DL.i_zip, DL.s_nil, DL.s_cons, DL.s_expr, DL.s_ret, DL.s_retN, DL.s_pass, DL.s_brk, DL.s_cont, DL.s_asg, DL.s_par2, DL.s_par3, DL.s_setLc, DL.s_augA, DL.s_augS, DL.s_append, DL.s_if, DL.s_while, DL.s_for, DL.o_add, DL.o_addT, DL.o_addL, DL.o_sub, DL.o_mul, DL.o_mulL, DL.o_fdiv, DL.o_mod, DL.o_pow, DL.o_shl, DL.o_shr, DL.q_lt, DL.q_le, DL.q_gt, DL.q_ge, DL.q_eqI, DL.q_neI, DL.q_eqS, DL.q_neS, DL.q_eqB, DL.q_neB, DL.q_isN, DL.q_notN, DL.q_isB, DL.q_notB, DL.t_bl, DL.t_int, DL.x_tup, DL.x_lst, DL.x_scr, DL.x_ref, DL.c_some, DL.n_f, DL.n_t, DL.f_lenT, DL.f_lenL, DL.f_lenC, DL.f_lenR, DL.f_abs, DL.f_min, DL.f_max, DL.f_intI, DL.f_intB, DL.f_tupT, DL.f_tupL, DL.f_tupR, DL.f_lstT, DL.f_lstL, DL.y_int, DL.y_bl, DL.y_str, DL.y_non, DL.y_tup, DL.y_lst, DL.z_tup, DL.z_lst, DL.z_enum, DL.isiD, DL.t_tup, DL.t_lst, DL.a_0, DL.a_1, DL.a_2, DL.a_3, DL.a_4, DL.a_5, DL.a_6, DL.ex_some, DL.ex_env, DL.ex_int, DL.ex_bl, DL.ex_ref, DL.ex_tup, DL.ex_int2, DL.ex_sub, DL.ex_cell, DL.ix_30, DL.ix_31, DL.ix_32, DL.CC.d, DL.startD, DL.wipeD, DL.i2, List.map_cons, List.map_nil, List.length_cons, List.length_nil, List.replicate, List.cons_append, List.nil_append, List.getElem?_cons_zero, List.getElem?_cons_succ, List.set_cons_zero, List.set_cons_succ, Nat.zero_add, Nat.reduceAdd, Nat.reduceSub, decide_eq_true_eq, Bool.not_eq_true', decide_eq_false_iff_not, if_true, Bool.false_eq_true, if_false, ite_true, ite_false, List.getD_cons_zero, List.getD_cons_succ, eq_self, not_true_eq_false, not_false_eq_true, Bool.true_eq_false, Bool.not_true, Bool.not_false, G3, pw2_one]
  refine ⟨by trivial, cpow1 (by omega) (by omega), mul_small_right (by omega) (by omega), mul_small_left (by omega) (by omega), mul_small_left (by omega) (by omega), a, b, f, bits, X, V, P, y, y0, rfl, h, ?_⟩
  have e : P * pw2 f - a * (y - X) - b * (y - y0 - V) = numE a b f X V P y y0 := by unfold numE smH; omega
  have m1 := mul_bd (a := P) (b := pw2 f) (A := 1000) (B := 256) (by omega) (by omega) (by omega) (by omega)
  have m2 := mul_bd (a := a) (b := y - X) (A := 4096) (B := 4000000) (by omega) (by omega) (by omega) (by omega)
  have m3 := mul_bd (a := b) (b := y - y0 - V) (A := 4096) (B := 4001000) (by omega) (by omega) (by omega) (by omega)
  have en : -100000000000 ≤ numE a b f X V P y y0 ∧ numE a b f X V P y y0 ≤ 100000000000 := by rw [← e]; omega
  rw [e]
  (try simp only [DL.e_var, DL.e_con, DL.e_glo, DL.e_bin, DL.e_neg, DL.e_cmp, DL.e_chain, DL.e_and, DL.e_or, DL.e_not, DL.e_ite, DL.e_tup, DL.e_lst, DL.e_ix, DL.e_sl, DL.e_call, DL.e_callK, DL.e_bi, DL.e_isi, DL.e_lc, DL.es_nil, DL.es_cons, DL.o_no, DL.o_yes, DL.b_and, DL.b_or, DL.b_not, DL.b_cmp, DL.b_chain, DL.b_val, DL.bs_nil, DL.bs_cons, DL.g_name, DL.g_tup, DL.g_sub, DL.gs_nil, DL.gs_cons, DL.i_seq, DL.i_range1, DL.i_range2, DL.i_range3, DL.i_enum, DL.i_zip, DL.s_nil, DL.s_cons, DL.s_expr, DL.s_ret, DL.s_retN, DL.s_pass, DL.s_brk, DL.s_cont, DL.s_asg, DL.s_par2, DL.s_par3, DL.s_setLc, DL.s_augA, DL.s_augS, DL.s_append, DL.s_if, DL.s_while, DL.s_for, DL.o_add, DL.o_addT, DL.o_addL, DL.o_sub, DL.o_mul, DL.o_mulL, DL.o_fdiv, DL.o_mod, DL.o_pow, DL.o_shl, DL.o_shr, DL.q_lt, DL.q_le, DL.q_gt, DL.q_ge, DL.q_eqI, DL.q_neI, DL.q_eqS, DL.q_neS, DL.q_eqB, DL.q_neB, DL.q_isN, DL.q_notN, DL.q_isB, DL.q_notB, DL.t_bl, DL.t_int, DL.x_tup, DL.x_lst, DL.x_scr, DL.x_ref, DL.c_some, DL.n_f, DL.n_t, DL.f_lenT, DL.f_lenL, DL.f_lenC, DL.f_lenR, DL.f_abs, DL.f_min, DL.f_max, DL.f_intI, DL.f_intB, DL.f_tupT, DL.f_tupL, DL.f_tupR, DL.f_lstT, DL.f_lstL, DL.y_int, DL.y_bl, DL.y_str, DL.y_non, DL.y_tup, DL.y_lst, DL.z_tup, DL.z_lst, DL.z_enum, DL.isiD, DL.t_tup, DL.t_lst, DL.a_0, DL.a_1, DL.a_2, DL.a_3, DL.a_4, DL.a_5, DL.a_6, DL.ex_some, DL.ex_env, DL.ex_int, DL.ex_bl, DL.ex_ref, DL.ex_tup, DL.ex_int2, DL.ex_sub, DL.ex_cell, DL.ix_30, DL.ix_31, DL.ix_32, DL.CC.d, DL.startD, DL.wipeD, DL.i2, List.map_cons, List.map_nil, List.length_cons, List.length_nil, List.replicate, List.cons_append, List.nil_append, List.getElem?_cons_zero, List.getElem?_cons_succ, List.set_cons_zero, List.set_cons_succ, Nat.zero_add, Nat.reduceAdd, Nat.reduceSub, decide_eq_true_eq, Bool.not_eq_true', decide_eq_false_iff_not, if_true, Bool.false_eq_true, if_false, ite_true, ite_false, List.getD_cons_zero, List.getD_cons_succ, eq_self, not_true_eq_false, not_false_eq_true, Bool.true_eq_false, Bool.not_true, Bool.not_false, G15])
  refine ⟨_, _, rfl, by omega, by omega, en.1, en.2, ?_⟩
  (try simp only [DL.e_var, DL.e_con, DL.e_glo, DL.e_bin, DL.e_neg, DL.e_cmp, DL.e_chain, DL.e_and, DL.e_or, DL.e_not, DL.e_ite, DL.e_tup, DL.e_lst, DL.e_ix, DL.e_sl, DL.e_call, DL.e_callK, DL.e_bi, DL.e_isi, DL.e_lc, DL.es_nil, DL.es_cons, DL.o_no, DL.o_yes, DL.b_and, DL.b_or, DL.b_not, DL.b_cmp, DL.b_chain, DL.b_val, DL.bs_nil, DL.bs_cons, DL.g_name, DL.g_tup, DL.g_sub, DL.gs_nil, DL.gs_cons, DL.i_seq, DL.i_range1, DL.i_range2, DL.i_range3, DL.i_enum, DL.i_zip, DL.s_nil, DL.s_cons, DL.s_expr, DL.s_ret, DL.s_retN, DL.s_pass, DL.s_brk, DL.s_cont, DL.s_asg, DL.s_par2, DL.s_par3, DL.s_setLc, DL.s_augA, DL.s_augS, DL.s_append, DL.s_if, DL.s_while, DL.s_for, DL.o_add, DL.o_addT, DL.o_addL, DL.o_sub, DL.o_mul, DL.o_mulL, DL.o_fdiv, DL.o_mod, DL.o_pow, DL.o_shl, DL.o_shr, DL.q_lt, DL.q_le, DL.q_gt, DL.q_ge, DL.q_eqI, DL.q_neI, DL.q_eqS, DL.q_neS, DL.q_eqB, DL.q_neB, DL.q_isN, DL.q_notN, DL.q_isB, DL.q_notB, DL.t_bl, DL.t_int, DL.x_tup, DL.x_lst, DL.x_scr, DL.x_ref, DL.c_some, DL.n_f, DL.n_t, DL.f_lenT, DL.f_lenL, DL.f_lenC, DL.f_lenR, DL.f_abs, DL.f_min, DL.f_max, DL.f_intI, DL.f_intB, DL.f_tupT, DL.f_tupL, DL.f_tupR, DL.f_lstT, DL.f_lstL, DL.y_int, DL.y_bl, DL.y_str, DL.y_non, DL.y_tup, DL.y_lst, DL.z_tup, DL.z_lst, DL.z_enum, DL.isiD, DL.t_tup, DL.t_lst, DL.a_0, DL.a_1, DL.a_2, DL.a_3, DL.a_4, DL.a_5, DL.a_6, DL.ex_some, DL.ex_env, DL.ex_int, DL.ex_bl, DL.ex_ref, DL.ex_tup, DL.ex_int2, DL.ex_sub, DL.ex_cell, DL.ix_30, DL.ix_31, DL.ix_32, DL.CC.d, DL.startD, DL.wipeD, DL.i2, List.map_cons, List.map_nil, List.length_cons, List.length_nil, List.replicate, List.cons_append, List.nil_append, List.getElem?_cons_zero, List.getElem?_cons_succ, List.set_cons_zero, List.set_cons_succ, Nat.zero_add, Nat.reduceAdd, Nat.reduceSub, decide_eq_true_eq, Bool.not_eq_true', decide_eq_false_iff_not, if_true, Bool.false_eq_true, if_false, ite_true, ite_false, List.getD_cons_zero, List.getD_cons_succ, eq_self, not_true_eq_false, not_false_eq_true, Bool.true_eq_false, Bool.not_true, Bool.not_false, G5])
  refine ⟨a, b, f, bits, X, V, P, y, y0, rfl, h, ?_⟩
  (try simp only [DL.e_var, DL.e_con, DL.e_glo, DL.e_bin, DL.e_neg, DL.e_cmp, DL.e_chain, DL.e_and, DL.e_or, DL.e_not, DL.e_ite, DL.e_tup, DL.e_lst, DL.e_ix, DL.e_sl, DL.e_call, DL.e_callK, DL.e_bi, DL.e_isi, DL.e_lc, DL.es_nil, DL.es_cons, DL.o_no, DL.o_yes, DL.b_and, DL.b_or, DL.b_not, DL.b_cmp, DL.b_chain, DL.b_val, DL.bs_nil, DL.bs_cons, DL.g_name, DL.g_tup, DL.g_sub, DL.gs_nil, DL.gs_cons, DL.i_seq, DL.i_range1, DL.i_range2, DL.i_range3, DL.i_enum, DL.i_zip, DL.s_nil, DL.s_cons, DL.s_expr, DL.s_ret, DL.s_retN, DL.s_pass, DL.s_brk, DL.s_cont, DL.s_asg, DL.s_par2, DL.s_par3, DL.s_setLc, DL.s_augA, DL.s_augS, DL.s_append, DL.s_if, DL.s_while, DL.s_for, DL.o_add, DL.o_addT, DL.o_addL, DL.o_sub, DL.o_mul, DL.o_mulL, DL.o_fdiv, DL.o_mod, DL.o_pow, DL.o_shl, DL.o_shr, DL.q_lt, DL.q_le, DL.q_gt, DL.q_ge, DL.q_eqI, DL.q_neI, DL.q_eqS, DL.q_neS, DL.q_eqB, DL.q_neB, DL.q_isN, DL.q_notN, DL.q_isB, DL.q_notB, DL.t_bl, DL.t_int, DL.x_tup, DL.x_lst, DL.x_scr, DL.x_ref, DL.c_some, DL.n_f, DL.n_t, DL.f_lenT, DL.f_lenL, DL.f_lenC, DL.f_lenR, DL.f_abs, DL.f_min, DL.f_max, DL.f_intI, DL.f_intB, DL.f_tupT, DL.f_tupL, DL.f_tupR, DL.f_lstT, DL.f_lstL, DL.y_int, DL.y_bl, DL.y_str, DL.y_non, DL.y_tup, DL.y_lst, DL.z_tup, DL.z_lst, DL.z_enum, DL.isiD, DL.t_tup, DL.t_lst, DL.a_0, DL.a_1, DL.a_2, DL.a_3, DL.a_4, DL.a_5, DL.a_6, DL.ex_some, DL.ex_env, DL.ex_int, DL.ex_bl, DL.ex_ref, DL.ex_tup, DL.ex_int2, DL.ex_sub, DL.ex_cell, DL.ix_30, DL.ix_31, DL.ix_32, DL.CC.d, DL.startD, DL.wipeD, DL.i2, List.map_cons, List.map_nil, List.length_cons, List.length_nil, List.replicate, List.cons_append, List.nil_append, List.getElem?_cons_zero, List.getElem?_cons_succ, List.set_cons_zero, List.set_cons_succ, Nat.zero_add, Nat.reduceAdd, Nat.reduceSub, decide_eq_true_eq, Bool.not_eq_true', decide_eq_false_iff_not, if_true, Bool.false_eq_true, if_false, ite_true, ite_false, List.getD_cons_zero, List.getD_cons_succ, eq_self, not_true_eq_false, not_false_eq_true, Bool.true_eq_false, Bool.not_true, Bool.not_false])
  refine ⟨mul_small_right (by omega) (by omega), ?_⟩
  have q1 := Int.ediv_mul_le (smH a b X V y y0) (show pw2 f ≠ 0 by omega)
  have q2 := Int.lt_ediv_add_one_mul_self (smH a b X V y y0) (show 0 < pw2 f by omega)
  have d1 : numE a b f X V P y y0 ≤ (P - smH a b X V y y0 / pw2 f) * pw2 f := by
    unfold numE; rw [Int.sub_mul]; omega
  have d2 : (P - smH a b X V y y0 / pw2 f - 1) * pw2 f < numE a b f X V P y y0 := by
    unfold numE; rw [Int.sub_mul, Int.sub_mul]; rw [Int.add_mul] at q2; omega
  rw [if_pos d1]
  (try simp only [DL.e_var, DL.e_con, DL.e_glo, DL.e_bin, DL.e_neg, DL.e_cmp, DL.e_chain, DL.e_and, DL.e_or, DL.e_not, DL.e_ite, DL.e_tup, DL.e_lst, DL.e_ix, DL.e_sl, DL.e_call, DL.e_callK, DL.e_bi, DL.e_isi, DL.e_lc, DL.es_nil, DL.es_cons, DL.o_no, DL.o_yes, DL.b_and, DL.b_or, DL.b_not, DL.b_cmp, DL.b_chain, DL.b_val, DL.bs_nil, DL.bs_cons, DL.g_name, DL.g_tup, DL.g_sub, DL.gs_nil, DL.gs_cons, DL.i_seq, DL.i_range1, DL.i_range2, DL.i_range3, DL.i_enum, DL.i_zip, DL.s_nil, DL.s_cons, DL.s_expr, DL.s_ret, DL.s_retN, DL.s_pass, DL.s_brk, DL.s_cont, DL.s_asg, DL.s_par2, DL.s_par3, DL.s_setLc, DL.s_augA, DL.s_augS, DL.s_append, DL.s_if, DL.s_while, DL.s_for, DL.o_add, DL.o_addT, DL.o_addL, DL.o_sub, DL.o_mul, DL.o_mulL, DL.o_fdiv, DL.o_mod, DL.o_pow, DL.o_shl, DL.o_shr, DL.q_lt, DL.q_le, DL.q_gt, DL.q_ge, DL.q_eqI, DL.q_neI, DL.q_eqS, DL.q_neS, DL.q_eqB, DL.q_neB, DL.q_isN, DL.q_notN, DL.q_isB, DL.q_notB, DL.t_bl, DL.t_int, DL.x_tup, DL.x_lst, DL.x_scr, DL.x_ref, DL.c_some, DL.n_f, DL.n_t, DL.f_lenT, DL.f_lenL, DL.f_lenC, DL.f_lenR, DL.f_abs, DL.f_min, DL.f_max, DL.f_intI, DL.f_intB, DL.f_tupT, DL.f_tupL, DL.f_tupR, DL.f_lstT, DL.f_lstL, DL.y_int, DL.y_bl, DL.y_str, DL.y_non, DL.y_tup, DL.y_lst, DL.z_tup, DL.z_lst, DL.z_enum, DL.isiD, DL.t_tup, DL.t_lst, DL.a_0, DL.a_1, DL.a_2, DL.a_3, DL.a_4, DL.a_5, DL.a_6, DL.ex_some, DL.ex_env, DL.ex_int, DL.ex_bl, DL.ex_ref, DL.ex_tup, DL.ex_int2, DL.ex_sub, DL.ex_cell, DL.ix_30, DL.ix_31, DL.ix_32, DL.CC.d, DL.startD, DL.wipeD, DL.i2, List.map_cons, List.map_nil, List.length_cons, List.length_nil, List.replicate, List.cons_append, List.nil_append, List.getElem?_cons_zero, List.getElem?_cons_succ, List.set_cons_zero, List.set_cons_succ, Nat.zero_add, Nat.reduceAdd, Nat.reduceSub, decide_eq_true_eq, Bool.not_eq_true', decide_eq_false_iff_not, if_true, Bool.false_eq_true, if_false, ite_true, ite_false, List.getD_cons_zero, List.getD_cons_succ, eq_self, not_true_eq_false, not_false_eq_true, Bool.true_eq_false, Bool.not_true, Bool.not_false])
  refine ⟨mul_small_right (by omega) (by omega), ?_⟩
  (try simp only [DL.e_var, DL.e_con, DL.e_glo, DL.e_bin, DL.e_neg, DL.e_cmp, DL.e_chain, DL.e_and, DL.e_or, DL.e_not, DL.e_ite, DL.e_tup, DL.e_lst, DL.e_ix, DL.e_sl, DL.e_call, DL.e_callK, DL.e_bi, DL.e_isi, DL.e_lc, DL.es_nil, DL.es_cons, DL.o_no, DL.o_yes, DL.b_and, DL.b_or, DL.b_not, DL.b_cmp, DL.b_chain, DL.b_val, DL.bs_nil, DL.bs_cons, DL.g_name, DL.g_tup, DL.g_sub, DL.gs_nil, DL.gs_cons, DL.i_seq, DL.i_range1, DL.i_range2, DL.i_range3, DL.i_enum, DL.i_zip, DL.s_nil, DL.s_cons, DL.s_expr, DL.s_ret, DL.s_retN, DL.s_pass, DL.s_brk, DL.s_cont, DL.s_asg, DL.s_par2, DL.s_par3, DL.s_setLc, DL.s_augA, DL.s_augS, DL.s_append, DL.s_if, DL.s_while, DL.s_for, DL.o_add, DL.o_addT, DL.o_addL, DL.o_sub, DL.o_mul, DL.o_mulL, DL.o_fdiv, DL.o_mod, DL.o_pow, DL.o_shl, DL.o_shr, DL.q_lt, DL.q_le, DL.q_gt, DL.q_ge, DL.q_eqI, DL.q_neI, DL.q_eqS, DL.q_neS, DL.q_eqB, DL.q_neB, DL.q_isN, DL.q_notN, DL.q_isB, DL.q_notB, DL.t_bl, DL.t_int, DL.x_tup, DL.x_lst, DL.x_scr, DL.x_ref, DL.c_some, DL.n_f, DL.n_t, DL.f_lenT, DL.f_lenL, DL.f_lenC, DL.f_lenR, DL.f_abs, DL.f_min, DL.f_max, DL.f_intI, DL.f_intB, DL.f_tupT, DL.f_tupL, DL.f_tupR, DL.f_lstT, DL.f_lstL, DL.y_int, DL.y_bl, DL.y_str, DL.y_non, DL.y_tup, DL.y_lst, DL.z_tup, DL.z_lst, DL.z_enum, DL.isiD, DL.t_tup, DL.t_lst, DL.a_0, DL.a_1, DL.a_2, DL.a_3, DL.a_4, DL.a_5, DL.a_6, DL.ex_some, DL.ex_env, DL.ex_int, DL.ex_bl, DL.ex_ref, DL.ex_tup, DL.ex_int2, DL.ex_sub, DL.ex_cell, DL.ix_30, DL.ix_31, DL.ix_32, DL.CC.d, DL.startD, DL.wipeD, DL.i2, List.map_cons, List.map_nil, List.length_cons, List.length_nil, List.replicate, List.cons_append, List.nil_append, List.getElem?_cons_zero, List.getElem?_cons_succ, List.set_cons_zero, List.set_cons_succ, Nat.zero_add, Nat.reduceAdd, Nat.reduceSub, decide_eq_true_eq, Bool.not_eq_true', decide_eq_false_iff_not, if_true, Bool.false_eq_true, if_false, ite_true, ite_false, List.getD_cons_zero, List.getD_cons_succ, eq_self, not_true_eq_false, not_false_eq_true, Bool.true_eq_false, Bool.not_true, Bool.not_false])
  simpa [d2] using hQ
theorem body17 : ∀ ds S Q, spLaw ds S Q → wpSs G c17 (startD n17.length ds) S { nx := fun _ S' => Q .non S', rt := Q } := by
  rintro ds S Q ⟨ns, rfl, hns, hQ⟩
  unfold c17 n17
  simp only [DL.e_var, DL.e_con, DL.e_glo, DL.e_bin, DL.e_neg, DL.e_cmp, DL.e_chain, DL.e_and, DL.e_or, DL.e_not, DL.e_ite, DL.e_tup, DL.e_lst, DL.e_ix, DL.e_sl, DL.e_call, DL.e_callK, DL.e_bi, DL.e_isi, DL.e_lc, DL.es_nil, DL.es_cons, DL.o_no, DL.o_yes, DL.b_and, DL.b_or, DL.b_not, DL.b_cmp, DL.b_chain, DL.b_val, DL.bs_nil, DL.bs_cons, DL.g_name, DL.g_tup, DL.g_sub, DL.gs_nil, DL.gs_cons, DL.i_seq, DL.i_range1, DL.i_range2, DL.i_range3, DL.i_enum, DL.i_zip, DL.s_nil, DL.s_cons, DL.s_expr, DL.s_ret, DL.s_retN, DL.s_pass, DL.s_brk, DL.s_cont, DL.s_asg, DL.s_par2, DL.s_par3, DL.s_setLc, DL.s_augA, DL.s_augS, DL.s_append, DL.s_if, DL.s_while, DL.s_for, DL.o_add, DL.o_addT, DL.o_addL, DL.o_sub, DL.o_mul, DL.o_mulL, DL.o_fdiv, DL.o_mod, DL.o_pow, DL.o_shl, DL.o_shr, DL.q_lt, DL.q_le, DL.q_gt, DL.q_ge, DL.q_eqI, DL.q_neI, DL.q_eqS, DL.q_neS, DL.q_eqB, DL.q_neB, DL.q_isN, DL.q_notN, DL.q_isB, DL.q_notB, DL.t_bl, DL.t_int, DL.x_tup, DL.x_lst, DL.x_scr, DL.x_ref, DL.c_some, DL.n_f, DL.n_t, DL.f_lenT, DL.f_lenL, DL.f_lenC, DL.f_lenR, DL.f_abs, DL.f_min, DL.f_max, DL.f_intI, DL.f_intB, DL.f_tupT, DL.f_tupL, DL.f_tupR, DL.f_lstT, DL.f_lstL, DL.y_int, DL.y_bl, DL.y_str, DL.y_non, DL.y_tup, DL.y_lst, DL.z_tup, DL.z_lst, DL.z_enum, DL.isiD, DL.t_tup, DL.t_lst, DL.a_0, DL.a_1, DL.a_2, DL.a_3, DL.a_4, DL.a_5, DL.a_6, DL.ex_some, DL.ex_env, DL.ex_int, DL.ex_bl, DL.ex_ref, DL.ex_tup, DL.ex_int2, DL.ex_sub, DL.ex_cell, DL.ix_30, DL.ix_31, DL.ix_32, DL.CC.d, DL.startD, DL.wipeD, DL.i2, List.map_cons, List.map_nil, List.length_cons, List.length_nil, List.replicate, List.cons_append, List.nil_append, List.getElem?_cons_zero, List.getElem?_cons_succ, List.set_cons_zero, List.set_cons_succ, Nat.zero_add, Nat.reduceAdd, Nat.reduceSub, decide_eq_true_eq, Bool.not_eq_true', decide_eq_false_iff_not, if_true, Bool.false_eq_true, if_false, ite_true, ite_false, List.getD_cons_zero, List.getD_cons_succ, eq_self, not_true_eq_false, not_false_eq_true, Bool.true_eq_false, Bool.not_true, Bool.not_false, List.length_map]
  have hc1 : 1 ≤ (if (if (ns.length : Int) < 6 then (ns.length : Int) else 6) > 1 then (if (ns.length : Int) < 6 then (ns.length : Int) else 6) else 1) ∧ (if (if (ns.length : Int) < 6 then (ns.length : Int) else 6) > 1 then (if (ns.length : Int) < 6 then (ns.length : Int) else 6) else 1) ≤ 6 := by split <;> split <;> omega
  generalize (if (if (ns.length : Int) < 6 then (ns.length : Int) else 6) > 1 then (if (ns.length : Int) < 6 then (ns.length : Int) else 6) else 1) = cells at *
  refine ⟨⟨by omega, by omega⟩, ?_⟩
  refine walk_range (fun i ρ S' => ∃ r1 r2 r3 r4 r5 r6 r7 r8 r9, ρ = [some (.scr (ns.map D.int)), r1, r2, r3, r4, r5, r6, r7, r8, r9]) ⟨_, _, _, _, _, _, _, _, _, rfl⟩ (fun _ _ _ _ => trivial) (fun k ρ S' hk hp => ?_) (fun ρ S' hp => ?_)
  · obtain ⟨r1, r2, r3, r4, r5, r6, r7, r8, r9, rfl⟩ := hp
    unfold DL.forTurn
    (try simp only [DL.e_var, DL.e_con, DL.e_glo, DL.e_bin, DL.e_neg, DL.e_cmp, DL.e_chain, DL.e_and, DL.e_or, DL.e_not, DL.e_ite, DL.e_tup, DL.e_lst, DL.e_ix, DL.e_sl, DL.e_call, DL.e_callK, DL.e_bi, DL.e_isi, DL.e_lc, DL.es_nil, DL.es_cons, DL.o_no, DL.o_yes, DL.b_and, DL.b_or, DL.b_not, DL.b_cmp, DL.b_chain, DL.b_val, DL.bs_nil, DL.bs_cons, DL.g_name, DL.g_tup, DL.g_sub, DL.gs_nil, DL.gs_cons, DL.i_seq, DL.i_range1, DL.i_range2, DL.i_range3, DL.i_enum, DL.i_zip, DL.s_nil, DL.s_cons, DL.s_expr, DL.s_ret, DL.s_retN, DL.s_pass, DL.s_brk, DL.s_cont, DL.s_asg, DL.s_par2, DL.s_par3, DL.s_setLc, DL.s_augA, DL.s_augS, DL.s_append, DL.s_if, DL.s_while, DL.s_for, DL.o_add, DL.o_addT, DL.o_addL, DL.o_sub, DL.o_mul, DL.o_mulL, DL.o_fdiv, DL.o_mod, DL.o_pow, DL.o_shl, DL.o_shr, DL.q_lt, DL.q_le, DL.q_gt, DL.q_ge, DL.q_eqI, DL.q_neI, DL.q_eqS, DL.q_neS, DL.q_eqB, DL.q_neB, DL.q_isN, DL.q_notN, DL.q_isB, DL.q_notB, DL.t_bl, DL.t_int, DL.x_tup, DL.x_lst, DL.x_scr, DL.x_ref, DL.c_some, DL.n_f, DL.n_t, DL.f_lenT, DL.f_lenL, DL.f_lenC, DL.f_lenR, DL.f_abs, DL.f_min, DL.f_max, DL.f_intI, DL.f_intB, DL.f_tupT, DL.f_tupL, DL.f_tupR, DL.f_lstT, DL.f_lstL, DL.y_int, DL.y_bl, DL.y_str, DL.y_non, DL.y_tup, DL.y_lst, DL.z_tup, DL.z_lst, DL.z_enum, DL.isiD, DL.t_tup, DL.t_lst, DL.a_0, DL.a_1, DL.a_2, DL.a_3, DL.a_4, DL.a_5, DL.a_6, DL.ex_some, DL.ex_env, DL.ex_int, DL.ex_bl, DL.ex_ref, DL.ex_tup, DL.ex_int2, DL.ex_sub, DL.ex_cell, DL.ix_30, DL.ix_31, DL.ix_32, DL.CC.d, DL.startD, DL.wipeD, DL.i2, List.map_cons, List.map_nil, List.length_cons, List.length_nil, List.replicate, List.cons_append, List.nil_append, List.getElem?_cons_zero, List.getElem?_cons_succ, List.set_cons_zero, List.set_cons_succ, Nat.zero_add, Nat.reduceAdd, Nat.reduceSub, decide_eq_true_eq, Bool.not_eq_true', decide_eq_false_iff_not, if_true, Bool.false_eq_true, if_false, ite_true, ite_false, List.getD_cons_zero, List.getD_cons_succ, eq_self, not_true_eq_false, not_false_eq_true, Bool.true_eq_false, Bool.not_true, Bool.not_false, G7])
    refine handA (by omega) (by omega) fun g m n S1 ok hS1 => ?_
    (try simp only [DL.e_var, DL.e_con, DL.e_glo, DL.e_bin, DL.e_neg, DL.e_cmp, DL.e_chain, DL.e_and, DL.e_or, DL.e_not, DL.e_ite, DL.e_tup, DL.e_lst, DL.e_ix, DL.e_sl, DL.e_call, DL.e_callK, DL.e_bi, DL.e_isi, DL.e_lc, DL.es_nil, DL.es_cons, DL.o_no, DL.o_yes, DL.b_and, DL.b_or, DL.b_not, DL.b_cmp, DL.b_chain, DL.b_val, DL.bs_nil, DL.bs_cons, DL.g_name, DL.g_tup, DL.g_sub, DL.gs_nil, DL.gs_cons, DL.i_seq, DL.i_range1, DL.i_range2, DL.i_range3, DL.i_enum, DL.i_zip, DL.s_nil, DL.s_cons, DL.s_expr, DL.s_ret, DL.s_retN, DL.s_pass, DL.s_brk, DL.s_cont, DL.s_asg, DL.s_par2, DL.s_par3, DL.s_setLc, DL.s_augA, DL.s_augS, DL.s_append, DL.s_if, DL.s_while, DL.s_for, DL.o_add, DL.o_addT, DL.o_addL, DL.o_sub, DL.o_mul, DL.o_mulL, DL.o_fdiv, DL.o_mod, DL.o_pow, DL.o_shl, DL.o_shr, DL.q_lt, DL.q_le, DL.q_gt, DL.q_ge, DL.q_eqI, DL.q_neI, DL.q_eqS, DL.q_neS, DL.q_eqB, DL.q_neB, DL.q_isN, DL.q_notN, DL.q_isB, DL.q_notB, DL.t_bl, DL.t_int, DL.x_tup, DL.x_lst, DL.x_scr, DL.x_ref, DL.c_some, DL.n_f, DL.n_t, DL.f_lenT, DL.f_lenL, DL.f_lenC, DL.f_lenR, DL.f_abs, DL.f_min, DL.f_max, DL.f_intI, DL.f_intB, DL.f_tupT, DL.f_tupL, DL.f_tupR, DL.f_lstT, DL.f_lstL, DL.y_int, DL.y_bl, DL.y_str, DL.y_non, DL.y_tup, DL.y_lst, DL.z_tup, DL.z_lst, DL.z_enum, DL.isiD, DL.t_tup, DL.t_lst, DL.a_0, DL.a_1, DL.a_2, DL.a_3, DL.a_4, DL.a_5, DL.a_6, DL.ex_some, DL.ex_env, DL.ex_int, DL.ex_bl, DL.ex_ref, DL.ex_tup, DL.ex_int2, DL.ex_sub, DL.ex_cell, DL.ix_30, DL.ix_31, DL.ix_32, DL.CC.d, DL.startD, DL.wipeD, DL.i2, List.map_cons, List.map_nil, List.length_cons, List.length_nil, List.replicate, List.cons_append, List.nil_append, List.getElem?_cons_zero, List.getElem?_cons_succ, List.set_cons_zero, List.set_cons_succ, Nat.zero_add, Nat.reduceAdd, Nat.reduceSub, decide_eq_true_eq, Bool.not_eq_true', decide_eq_false_iff_not, if_true, Bool.false_eq_true, if_false, ite_true, ite_false, List.getD_cons_zero, List.getD_cons_succ, eq_self, not_true_eq_false, not_false_eq_true, Bool.true_eq_false, Bool.not_true, Bool.not_false, G13])
    refine ⟨n, g, m, 0, rfl, hS1, ok, by omega, fun gs g t2 S2 hl1 hl2 hgs ok ht2 hS2 => ?_⟩
    (try simp only [DL.e_var, DL.e_con, DL.e_glo, DL.e_bin, DL.e_neg, DL.e_cmp, DL.e_chain, DL.e_and, DL.e_or, DL.e_not, DL.e_ite, DL.e_tup, DL.e_lst, DL.e_ix, DL.e_sl, DL.e_call, DL.e_callK, DL.e_bi, DL.e_isi, DL.e_lc, DL.es_nil, DL.es_cons, DL.o_no, DL.o_yes, DL.b_and, DL.b_or, DL.b_not, DL.b_cmp, DL.b_chain, DL.b_val, DL.bs_nil, DL.bs_cons, DL.g_name, DL.g_tup, DL.g_sub, DL.gs_nil, DL.gs_cons, DL.i_seq, DL.i_range1, DL.i_range2, DL.i_range3, DL.i_enum, DL.i_zip, DL.s_nil, DL.s_cons, DL.s_expr, DL.s_ret, DL.s_retN, DL.s_pass, DL.s_brk, DL.s_cont, DL.s_asg, DL.s_par2, DL.s_par3, DL.s_setLc, DL.s_augA, DL.s_augS, DL.s_append, DL.s_if, DL.s_while, DL.s_for, DL.o_add, DL.o_addT, DL.o_addL, DL.o_sub, DL.o_mul, DL.o_mulL, DL.o_fdiv, DL.o_mod, DL.o_pow, DL.o_shl, DL.o_shr, DL.q_lt, DL.q_le, DL.q_gt, DL.q_ge, DL.q_eqI, DL.q_neI, DL.q_eqS, DL.q_neS, DL.q_eqB, DL.q_neB, DL.q_isN, DL.q_notN, DL.q_isB, DL.q_notB, DL.t_bl, DL.t_int, DL.x_tup, DL.x_lst, DL.x_scr, DL.x_ref, DL.c_some, DL.n_f, DL.n_t, DL.f_lenT, DL.f_lenL, DL.f_lenC, DL.f_lenR, DL.f_abs, DL.f_min, DL.f_max, DL.f_intI, DL.f_intB, DL.f_tupT, DL.f_tupL, DL.f_tupR, DL.f_lstT, DL.f_lstL, DL.y_int, DL.y_bl, DL.y_str, DL.y_non, DL.y_tup, DL.y_lst, DL.z_tup, DL.z_lst, DL.z_enum, DL.isiD, DL.t_tup, DL.t_lst, DL.a_0, DL.a_1, DL.a_2, DL.a_3, DL.a_4, DL.a_5, DL.a_6, DL.ex_some, DL.ex_env, DL.ex_int, DL.ex_bl, DL.ex_ref, DL.ex_tup, DL.ex_int2, DL.ex_sub, DL.ex_cell, DL.ix_30, DL.ix_31, DL.ix_32, DL.CC.d, DL.startD, DL.wipeD, DL.i2, List.map_cons, List.map_nil, List.length_cons, List.length_nil, List.replicate, List.cons_append, List.nil_append, List.getElem?_cons_zero, List.getElem?_cons_succ, List.set_cons_zero, List.set_cons_succ, Nat.zero_add, Nat.reduceAdd, Nat.reduceSub, decide_eq_true_eq, Bool.not_eq_true', decide_eq_false_iff_not, if_true, Bool.false_eq_true, if_false, ite_true, ite_false, List.getD_cons_zero, List.getD_cons_succ, eq_self, not_true_eq_false, not_false_eq_true, Bool.true_eq_false, Bool.not_true, Bool.not_false, G9])
    refine pickA hS2 ok (by omega) fun c g t3 S3 hy ok ht3 hS3 => ?_
    obtain ⟨far, rfl, hf⟩ : ∃ k : Int, c = .int k ∧ 3 ≤ k ∧ k ≤ 400000 := by
      simp only [List.mem_cons, List.not_mem_nil, or_false] at hy
      rcases hy with rfl | rfl | rfl <;> exact ⟨_, rfl, by omega, by omega⟩
    (try simp only [DL.e_var, DL.e_con, DL.e_glo, DL.e_bin, DL.e_neg, DL.e_cmp, DL.e_chain, DL.e_and, DL.e_or, DL.e_not, DL.e_ite, DL.e_tup, DL.e_lst, DL.e_ix, DL.e_sl, DL.e_call, DL.e_callK, DL.e_bi, DL.e_isi, DL.e_lc, DL.es_nil, DL.es_cons, DL.o_no, DL.o_yes, DL.b_and, DL.b_or, DL.b_not, DL.b_cmp, DL.b_chain, DL.b_val, DL.bs_nil, DL.bs_cons, DL.g_name, DL.g_tup, DL.g_sub, DL.gs_nil, DL.gs_cons, DL.i_seq, DL.i_range1, DL.i_range2, DL.i_range3, DL.i_enum, DL.i_zip, DL.s_nil, DL.s_cons, DL.s_expr, DL.s_ret, DL.s_retN, DL.s_pass, DL.s_brk, DL.s_cont, DL.s_asg, DL.s_par2, DL.s_par3, DL.s_setLc, DL.s_augA, DL.s_augS, DL.s_append, DL.s_if, DL.s_while, DL.s_for, DL.o_add, DL.o_addT, DL.o_addL, DL.o_sub, DL.o_mul, DL.o_mulL, DL.o_fdiv, DL.o_mod, DL.o_pow, DL.o_shl, DL.o_shr, DL.q_lt, DL.q_le, DL.q_gt, DL.q_ge, DL.q_eqI, DL.q_neI, DL.q_eqS, DL.q_neS, DL.q_eqB, DL.q_neB, DL.q_isN, DL.q_notN, DL.q_isB, DL.q_notB, DL.t_bl, DL.t_int, DL.x_tup, DL.x_lst, DL.x_scr, DL.x_ref, DL.c_some, DL.n_f, DL.n_t, DL.f_lenT, DL.f_lenL, DL.f_lenC, DL.f_lenR, DL.f_abs, DL.f_min, DL.f_max, DL.f_intI, DL.f_intB, DL.f_tupT, DL.f_tupL, DL.f_tupR, DL.f_lstT, DL.f_lstL, DL.y_int, DL.y_bl, DL.y_str, DL.y_non, DL.y_tup, DL.y_lst, DL.z_tup, DL.z_lst, DL.z_enum, DL.isiD, DL.t_tup, DL.t_lst, DL.a_0, DL.a_1, DL.a_2, DL.a_3, DL.a_4, DL.a_5, DL.a_6, DL.ex_some, DL.ex_env, DL.ex_int, DL.ex_bl, DL.ex_ref, DL.ex_tup, DL.ex_int2, DL.ex_sub, DL.ex_cell, DL.ix_30, DL.ix_31, DL.ix_32, DL.CC.d, DL.startD, DL.wipeD, DL.i2, List.map_cons, List.map_nil, List.length_cons, List.length_nil, List.replicate, List.cons_append, List.nil_append, List.getElem?_cons_zero, List.getElem?_cons_succ, List.set_cons_zero, List.set_cons_succ, Nat.zero_add, Nat.reduceAdd, Nat.reduceSub, decide_eq_true_eq, Bool.not_eq_true', decide_eq_false_iff_not, if_true, Bool.false_eq_true, if_false, ite_true, ite_false, List.getD_cons_zero, List.getD_cons_succ, eq_self, not_true_eq_false, not_false_eq_true, Bool.true_eq_false, Bool.not_true, Bool.not_false, List.length_map])
    refine ⟨⟨by omega, by omega⟩, ?_⟩
    refine walk_range (fun i ρ S' => ∃ (g t : Int) (r1 r3 r6 r7 r8 r9 : Option D), ρ = [some (.scr (ns.map D.int)), r1, some (.ref n), r3, some (.tup (gs.map D.int)), some (.int far), r6, r7, r8, r9] ∧ S'[n]? = some (potC g m t) ∧ POk g m t ∧ t ≤ t3 + 20 * i) ⟨g, t3, _, _, _, _, _, _, rfl, hS3, ok, by omega⟩ (fun _ _ _ _ => trivial) (fun i ρ S4 hi hp => ?_) (fun ρ S4 hp => ?_)
    · obtain ⟨g, t, r1, r3, r6, r7, r8, r9, rfl, hS4, ok, ht⟩ := hp
      have hiw : ((0 : Int) + (i : Int)) < gs.length := by omega
      have hib : (i : Int) < 10 := by omega
      generalize hw : (0 : Int) + (i : Int) = w at *
      have w0 : 0 ≤ w := by omega
      unfold DL.forTurn
      (try simp only [DL.e_var, DL.e_con, DL.e_glo, DL.e_bin, DL.e_neg, DL.e_cmp, DL.e_chain, DL.e_and, DL.e_or, DL.e_not, DL.e_ite, DL.e_tup, DL.e_lst, DL.e_ix, DL.e_sl, DL.e_call, DL.e_callK, DL.e_bi, DL.e_isi, DL.e_lc, DL.es_nil, DL.es_cons, DL.o_no, DL.o_yes, DL.b_and, DL.b_or, DL.b_not, DL.b_cmp, DL.b_chain, DL.b_val, DL.bs_nil, DL.bs_cons, DL.g_name, DL.g_tup, DL.g_sub, DL.gs_nil, DL.gs_cons, DL.i_seq, DL.i_range1, DL.i_range2, DL.i_range3, DL.i_enum, DL.i_zip, DL.s_nil, DL.s_cons, DL.s_expr, DL.s_ret, DL.s_retN, DL.s_pass, DL.s_brk, DL.s_cont, DL.s_asg, DL.s_par2, DL.s_par3, DL.s_setLc, DL.s_augA, DL.s_augS, DL.s_append, DL.s_if, DL.s_while, DL.s_for, DL.o_add, DL.o_addT, DL.o_addL, DL.o_sub, DL.o_mul, DL.o_mulL, DL.o_fdiv, DL.o_mod, DL.o_pow, DL.o_shl, DL.o_shr, DL.q_lt, DL.q_le, DL.q_gt, DL.q_ge, DL.q_eqI, DL.q_neI, DL.q_eqS, DL.q_neS, DL.q_eqB, DL.q_neB, DL.q_isN, DL.q_notN, DL.q_isB, DL.q_notB, DL.t_bl, DL.t_int, DL.x_tup, DL.x_lst, DL.x_scr, DL.x_ref, DL.c_some, DL.n_f, DL.n_t, DL.f_lenT, DL.f_lenL, DL.f_lenC, DL.f_lenR, DL.f_abs, DL.f_min, DL.f_max, DL.f_intI, DL.f_intB, DL.f_tupT, DL.f_tupL, DL.f_tupR, DL.f_lstT, DL.f_lstL, DL.y_int, DL.y_bl, DL.y_str, DL.y_non, DL.y_tup, DL.y_lst, DL.z_tup, DL.z_lst, DL.z_enum, DL.isiD, DL.t_tup, DL.t_lst, DL.a_0, DL.a_1, DL.a_2, DL.a_3, DL.a_4, DL.a_5, DL.a_6, DL.ex_some, DL.ex_env, DL.ex_int, DL.ex_bl, DL.ex_ref, DL.ex_tup, DL.ex_int2, DL.ex_sub, DL.ex_cell, DL.ix_30, DL.ix_31, DL.ix_32, DL.CC.d, DL.startD, DL.wipeD, DL.i2, List.map_cons, List.map_nil, List.length_cons, List.length_nil, List.replicate, List.cons_append, List.nil_append, List.getElem?_cons_zero, List.getElem?_cons_succ, List.set_cons_zero, List.set_cons_succ, Nat.zero_add, Nat.reduceAdd, Nat.reduceSub, decide_eq_true_eq, Bool.not_eq_true', decide_eq_false_iff_not, if_true, Bool.false_eq_true, if_false, ite_true, ite_false, List.getD_cons_zero, List.getD_cons_succ, eq_self, not_true_eq_false, not_false_eq_true, Bool.true_eq_false, Bool.not_true, Bool.not_false, G6])
      refine ⟨gs, w, rfl, w0, hiw, by omega, ?_⟩
      (try simp only [DL.e_var, DL.e_con, DL.e_glo, DL.e_bin, DL.e_neg, DL.e_cmp, DL.e_chain, DL.e_and, DL.e_or, DL.e_not, DL.e_ite, DL.e_tup, DL.e_lst, DL.e_ix, DL.e_sl, DL.e_call, DL.e_callK, DL.e_bi, DL.e_isi, DL.e_lc, DL.es_nil, DL.es_cons, DL.o_no, DL.o_yes, DL.b_and, DL.b_or, DL.b_not, DL.b_cmp, DL.b_chain, DL.b_val, DL.bs_nil, DL.bs_cons, DL.g_name, DL.g_tup, DL.g_sub, DL.gs_nil, DL.gs_cons, DL.i_seq, DL.i_range1, DL.i_range2, DL.i_range3, DL.i_enum, DL.i_zip, DL.s_nil, DL.s_cons, DL.s_expr, DL.s_ret, DL.s_retN, DL.s_pass, DL.s_brk, DL.s_cont, DL.s_asg, DL.s_par2, DL.s_par3, DL.s_setLc, DL.s_augA, DL.s_augS, DL.s_append, DL.s_if, DL.s_while, DL.s_for, DL.o_add, DL.o_addT, DL.o_addL, DL.o_sub, DL.o_mul, DL.o_mulL, DL.o_fdiv, DL.o_mod, DL.o_pow, DL.o_shl, DL.o_shr, DL.q_lt, DL.q_le, DL.q_gt, DL.q_ge, DL.q_eqI, DL.q_neI, DL.q_eqS, DL.q_neS, DL.q_eqB, DL.q_neB, DL.q_isN, DL.q_notN, DL.q_isB, DL.q_notB, DL.t_bl, DL.t_int, DL.x_tup, DL.x_lst, DL.x_scr, DL.x_ref, DL.c_some, DL.n_f, DL.n_t, DL.f_lenT, DL.f_lenL, DL.f_lenC, DL.f_lenR, DL.f_abs, DL.f_min, DL.f_max, DL.f_intI, DL.f_intB, DL.f_tupT, DL.f_tupL, DL.f_tupR, DL.f_lstT, DL.f_lstL, DL.y_int, DL.y_bl, DL.y_str, DL.y_non, DL.y_tup, DL.y_lst, DL.z_tup, DL.z_lst, DL.z_enum, DL.isiD, DL.t_tup, DL.t_lst, DL.a_0, DL.a_1, DL.a_2, DL.a_3, DL.a_4, DL.a_5, DL.a_6, DL.ex_some, DL.ex_env, DL.ex_int, DL.ex_bl, DL.ex_ref, DL.ex_tup, DL.ex_int2, DL.ex_sub, DL.ex_cell, DL.ix_30, DL.ix_31, DL.ix_32, DL.CC.d, DL.startD, DL.wipeD, DL.i2, List.map_cons, List.map_nil, List.length_cons, List.length_nil, List.replicate, List.cons_append, List.nil_append, List.getElem?_cons_zero, List.getElem?_cons_succ, List.set_cons_zero, List.set_cons_succ, Nat.zero_add, Nat.reduceAdd, Nat.reduceSub, decide_eq_true_eq, Bool.not_eq_true', decide_eq_false_iff_not, if_true, Bool.false_eq_true, if_false, ite_true, ite_false, List.getD_cons_zero, List.getD_cons_succ, eq_self, not_true_eq_false, not_false_eq_true, Bool.true_eq_false, Bool.not_true, Bool.not_false, G6])
      refine ⟨gs, w, rfl, w0, hiw, by omega, ?_⟩
      have bg := gI_bd (B := 110) (by decide) hgs w
      have bw := W_bd (B := 110) (by decide) hgs w
      have bp : -1000 ≤ ltW gs w - pcW gs w ∧ ltW gs w - pcW gs w ≤ 1000 := by omega
      generalize hX : gI gs w = X at *
      generalize hV : pcW gs w = V at *
      generalize hP : ltW gs w - V = P at *
      have k1 : okP (.list [.tuple [.int X, .int V, .int P], .tuple [.int X, .int V, .int P]]) = true := by (simp only [okP, okPs, Bool.and_eq_true, decide_eq_true_eq, eq_self, and_true]); omega
      refine repr4 rfl k1 ?_
      (try simp only [DL.e_var, DL.e_con, DL.e_glo, DL.e_bin, DL.e_neg, DL.e_cmp, DL.e_chain, DL.e_and, DL.e_or, DL.e_not, DL.e_ite, DL.e_tup, DL.e_lst, DL.e_ix, DL.e_sl, DL.e_call, DL.e_callK, DL.e_bi, DL.e_isi, DL.e_lc, DL.es_nil, DL.es_cons, DL.o_no, DL.o_yes, DL.b_and, DL.b_or, DL.b_not, DL.b_cmp, DL.b_chain, DL.b_val, DL.bs_nil, DL.bs_cons, DL.g_name, DL.g_tup, DL.g_sub, DL.gs_nil, DL.gs_cons, DL.i_seq, DL.i_range1, DL.i_range2, DL.i_range3, DL.i_enum, DL.i_zip, DL.s_nil, DL.s_cons, DL.s_expr, DL.s_ret, DL.s_retN, DL.s_pass, DL.s_brk, DL.s_cont, DL.s_asg, DL.s_par2, DL.s_par3, DL.s_setLc, DL.s_augA, DL.s_augS, DL.s_append, DL.s_if, DL.s_while, DL.s_for, DL.o_add, DL.o_addT, DL.o_addL, DL.o_sub, DL.o_mul, DL.o_mulL, DL.o_fdiv, DL.o_mod, DL.o_pow, DL.o_shl, DL.o_shr, DL.q_lt, DL.q_le, DL.q_gt, DL.q_ge, DL.q_eqI, DL.q_neI, DL.q_eqS, DL.q_neS, DL.q_eqB, DL.q_neB, DL.q_isN, DL.q_notN, DL.q_isB, DL.q_notB, DL.t_bl, DL.t_int, DL.x_tup, DL.x_lst, DL.x_scr, DL.x_ref, DL.c_some, DL.n_f, DL.n_t, DL.f_lenT, DL.f_lenL, DL.f_lenC, DL.f_lenR, DL.f_abs, DL.f_min, DL.f_max, DL.f_intI, DL.f_intB, DL.f_tupT, DL.f_tupL, DL.f_tupR, DL.f_lstT, DL.f_lstL, DL.y_int, DL.y_bl, DL.y_str, DL.y_non, DL.y_tup, DL.y_lst, DL.z_tup, DL.z_lst, DL.z_enum, DL.isiD, DL.t_tup, DL.t_lst, DL.a_0, DL.a_1, DL.a_2, DL.a_3, DL.a_4, DL.a_5, DL.a_6, DL.ex_some, DL.ex_env, DL.ex_int, DL.ex_bl, DL.ex_ref, DL.ex_tup, DL.ex_int2, DL.ex_sub, DL.ex_cell, DL.ix_30, DL.ix_31, DL.ix_32, DL.CC.d, DL.startD, DL.wipeD, DL.i2, List.map_cons, List.map_nil, List.length_cons, List.length_nil, List.replicate, List.cons_append, List.nil_append, List.getElem?_cons_zero, List.getElem?_cons_succ, List.set_cons_zero, List.set_cons_succ, Nat.zero_add, Nat.reduceAdd, Nat.reduceSub, decide_eq_true_eq, Bool.not_eq_true', decide_eq_false_iff_not, if_true, Bool.false_eq_true, if_false, ite_true, ite_false, List.getD_cons_zero, List.getD_cons_succ, eq_self, not_true_eq_false, not_false_eq_true, Bool.true_eq_false, Bool.not_true, Bool.not_false, G14])
      refine ⟨gs, w, rfl, w0, hiw, by omega, ?_⟩
      rw [hX, hV, hP]
      (try simp only [DL.e_var, DL.e_con, DL.e_glo, DL.e_bin, DL.e_neg, DL.e_cmp, DL.e_chain, DL.e_and, DL.e_or, DL.e_not, DL.e_ite, DL.e_tup, DL.e_lst, DL.e_ix, DL.e_sl, DL.e_call, DL.e_callK, DL.e_bi, DL.e_isi, DL.e_lc, DL.es_nil, DL.es_cons, DL.o_no, DL.o_yes, DL.b_and, DL.b_or, DL.b_not, DL.b_cmp, DL.b_chain, DL.b_val, DL.bs_nil, DL.bs_cons, DL.g_name, DL.g_tup, DL.g_sub, DL.gs_nil, DL.gs_cons, DL.i_seq, DL.i_range1, DL.i_range2, DL.i_range3, DL.i_enum, DL.i_zip, DL.s_nil, DL.s_cons, DL.s_expr, DL.s_ret, DL.s_retN, DL.s_pass, DL.s_brk, DL.s_cont, DL.s_asg, DL.s_par2, DL.s_par3, DL.s_setLc, DL.s_augA, DL.s_augS, DL.s_append, DL.s_if, DL.s_while, DL.s_for, DL.o_add, DL.o_addT, DL.o_addL, DL.o_sub, DL.o_mul, DL.o_mulL, DL.o_fdiv, DL.o_mod, DL.o_pow, DL.o_shl, DL.o_shr, DL.q_lt, DL.q_le, DL.q_gt, DL.q_ge, DL.q_eqI, DL.q_neI, DL.q_eqS, DL.q_neS, DL.q_eqB, DL.q_neB, DL.q_isN, DL.q_notN, DL.q_isB, DL.q_notB, DL.t_bl, DL.t_int, DL.x_tup, DL.x_lst, DL.x_scr, DL.x_ref, DL.c_some, DL.n_f, DL.n_t, DL.f_lenT, DL.f_lenL, DL.f_lenC, DL.f_lenR, DL.f_abs, DL.f_min, DL.f_max, DL.f_intI, DL.f_intB, DL.f_tupT, DL.f_tupL, DL.f_tupR, DL.f_lstT, DL.f_lstL, DL.y_int, DL.y_bl, DL.y_str, DL.y_non, DL.y_tup, DL.y_lst, DL.z_tup, DL.z_lst, DL.z_enum, DL.isiD, DL.t_tup, DL.t_lst, DL.a_0, DL.a_1, DL.a_2, DL.a_3, DL.a_4, DL.a_5, DL.a_6, DL.ex_some, DL.ex_env, DL.ex_int, DL.ex_bl, DL.ex_ref, DL.ex_tup, DL.ex_int2, DL.ex_sub, DL.ex_cell, DL.ix_30, DL.ix_31, DL.ix_32, DL.CC.d, DL.startD, DL.wipeD, DL.i2, List.map_cons, List.map_nil, List.length_cons, List.length_nil, List.replicate, List.cons_append, List.nil_append, List.getElem?_cons_zero, List.getElem?_cons_succ, List.set_cons_zero, List.set_cons_succ, Nat.zero_add, Nat.reduceAdd, Nat.reduceSub, decide_eq_true_eq, Bool.not_eq_true', decide_eq_false_iff_not, if_true, Bool.false_eq_true, if_false, ite_true, ite_false, List.getD_cons_zero, List.getD_cons_succ, eq_self, not_true_eq_false, not_false_eq_true, Bool.true_eq_false, Bool.not_true, Bool.not_false])
      refine ⟨by decide, by decide, by decide, ?_⟩
      have e2 : ∀ x : D, (List.replicate (2 : Int).toNat [x]).flatten = [x, x] := fun _ => rfl
      rw [e2]
      refine repr4 rfl k1 ?_
      (try simp only [DL.e_var, DL.e_con, DL.e_glo, DL.e_bin, DL.e_neg, DL.e_cmp, DL.e_chain, DL.e_and, DL.e_or, DL.e_not, DL.e_ite, DL.e_tup, DL.e_lst, DL.e_ix, DL.e_sl, DL.e_call, DL.e_callK, DL.e_bi, DL.e_isi, DL.e_lc, DL.es_nil, DL.es_cons, DL.o_no, DL.o_yes, DL.b_and, DL.b_or, DL.b_not, DL.b_cmp, DL.b_chain, DL.b_val, DL.bs_nil, DL.bs_cons, DL.g_name, DL.g_tup, DL.g_sub, DL.gs_nil, DL.gs_cons, DL.i_seq, DL.i_range1, DL.i_range2, DL.i_range3, DL.i_enum, DL.i_zip, DL.s_nil, DL.s_cons, DL.s_expr, DL.s_ret, DL.s_retN, DL.s_pass, DL.s_brk, DL.s_cont, DL.s_asg, DL.s_par2, DL.s_par3, DL.s_setLc, DL.s_augA, DL.s_augS, DL.s_append, DL.s_if, DL.s_while, DL.s_for, DL.o_add, DL.o_addT, DL.o_addL, DL.o_sub, DL.o_mul, DL.o_mulL, DL.o_fdiv, DL.o_mod, DL.o_pow, DL.o_shl, DL.o_shr, DL.q_lt, DL.q_le, DL.q_gt, DL.q_ge, DL.q_eqI, DL.q_neI, DL.q_eqS, DL.q_neS, DL.q_eqB, DL.q_neB, DL.q_isN, DL.q_notN, DL.q_isB, DL.q_notB, DL.t_bl, DL.t_int, DL.x_tup, DL.x_lst, DL.x_scr, DL.x_ref, DL.c_some, DL.n_f, DL.n_t, DL.f_lenT, DL.f_lenL, DL.f_lenC, DL.f_lenR, DL.f_abs, DL.f_min, DL.f_max, DL.f_intI, DL.f_intB, DL.f_tupT, DL.f_tupL, DL.f_tupR, DL.f_lstT, DL.f_lstL, DL.y_int, DL.y_bl, DL.y_str, DL.y_non, DL.y_tup, DL.y_lst, DL.z_tup, DL.z_lst, DL.z_enum, DL.isiD, DL.t_tup, DL.t_lst, DL.a_0, DL.a_1, DL.a_2, DL.a_3, DL.a_4, DL.a_5, DL.a_6, DL.ex_some, DL.ex_env, DL.ex_int, DL.ex_bl, DL.ex_ref, DL.ex_tup, DL.ex_int2, DL.ex_sub, DL.ex_cell, DL.ix_30, DL.ix_31, DL.ix_32, DL.CC.d, DL.startD, DL.wipeD, DL.i2, List.map_cons, List.map_nil, List.length_cons, List.length_nil, List.replicate, List.cons_append, List.nil_append, List.getElem?_cons_zero, List.getElem?_cons_succ, List.set_cons_zero, List.set_cons_succ, Nat.zero_add, Nat.reduceAdd, Nat.reduceSub, decide_eq_true_eq, Bool.not_eq_true', decide_eq_false_iff_not, if_true, Bool.false_eq_true, if_false, ite_true, ite_false, List.getD_cons_zero, List.getD_cons_succ, eq_self, not_true_eq_false, not_false_eq_true, Bool.true_eq_false, Bool.not_true, Bool.not_false, G10])
      refine ⟨n, g, m, t, rfl, hS4, ok, by omega, fun a b f bits g t5 S5 hh a1 a2 b1 b2 ok ht5 hS5 => ?_⟩
      (try simp only [DL.e_var, DL.e_con, DL.e_glo, DL.e_bin, DL.e_neg, DL.e_cmp, DL.e_chain, DL.e_and, DL.e_or, DL.e_not, DL.e_ite, DL.e_tup, DL.e_lst, DL.e_ix, DL.e_sl, DL.e_call, DL.e_callK, DL.e_bi, DL.e_isi, DL.e_lc, DL.es_nil, DL.es_cons, DL.o_no, DL.o_yes, DL.b_and, DL.b_or, DL.b_not, DL.b_cmp, DL.b_chain, DL.b_val, DL.bs_nil, DL.bs_cons, DL.g_name, DL.g_tup, DL.g_sub, DL.gs_nil, DL.gs_cons, DL.i_seq, DL.i_range1, DL.i_range2, DL.i_range3, DL.i_enum, DL.i_zip, DL.s_nil, DL.s_cons, DL.s_expr, DL.s_ret, DL.s_retN, DL.s_pass, DL.s_brk, DL.s_cont, DL.s_asg, DL.s_par2, DL.s_par3, DL.s_setLc, DL.s_augA, DL.s_augS, DL.s_append, DL.s_if, DL.s_while, DL.s_for, DL.o_add, DL.o_addT, DL.o_addL, DL.o_sub, DL.o_mul, DL.o_mulL, DL.o_fdiv, DL.o_mod, DL.o_pow, DL.o_shl, DL.o_shr, DL.q_lt, DL.q_le, DL.q_gt, DL.q_ge, DL.q_eqI, DL.q_neI, DL.q_eqS, DL.q_neS, DL.q_eqB, DL.q_neB, DL.q_isN, DL.q_notN, DL.q_isB, DL.q_notB, DL.t_bl, DL.t_int, DL.x_tup, DL.x_lst, DL.x_scr, DL.x_ref, DL.c_some, DL.n_f, DL.n_t, DL.f_lenT, DL.f_lenL, DL.f_lenC, DL.f_lenR, DL.f_abs, DL.f_min, DL.f_max, DL.f_intI, DL.f_intB, DL.f_tupT, DL.f_tupL, DL.f_tupR, DL.f_lstT, DL.f_lstL, DL.y_int, DL.y_bl, DL.y_str, DL.y_non, DL.y_tup, DL.y_lst, DL.z_tup, DL.z_lst, DL.z_enum, DL.isiD, DL.t_tup, DL.t_lst, DL.a_0, DL.a_1, DL.a_2, DL.a_3, DL.a_4, DL.a_5, DL.a_6, DL.ex_some, DL.ex_env, DL.ex_int, DL.ex_bl, DL.ex_ref, DL.ex_tup, DL.ex_int2, DL.ex_sub, DL.ex_cell, DL.ix_30, DL.ix_31, DL.ix_32, DL.CC.d, DL.startD, DL.wipeD, DL.i2, List.map_cons, List.map_nil, List.length_cons, List.length_nil, List.replicate, List.cons_append, List.nil_append, List.getElem?_cons_zero, List.getElem?_cons_succ, List.set_cons_zero, List.set_cons_succ, Nat.zero_add, Nat.reduceAdd, Nat.reduceSub, decide_eq_true_eq, Bool.not_eq_true', decide_eq_false_iff_not, if_true, Bool.false_eq_true, if_false, ite_true, ite_false, List.getD_cons_zero, List.getD_cons_succ, eq_self, not_true_eq_false, not_false_eq_true, Bool.true_eq_false, Bool.not_true, Bool.not_false, G8])
      refine takeA hS5 ok (by omega) (by decide) (by decide) fun v6 g t6 S6 _ _ ok ht6 hS6 => ?_
      (try simp only [DL.e_var, DL.e_con, DL.e_glo, DL.e_bin, DL.e_neg, DL.e_cmp, DL.e_chain, DL.e_and, DL.e_or, DL.e_not, DL.e_ite, DL.e_tup, DL.e_lst, DL.e_ix, DL.e_sl, DL.e_call, DL.e_callK, DL.e_bi, DL.e_isi, DL.e_lc, DL.es_nil, DL.es_cons, DL.o_no, DL.o_yes, DL.b_and, DL.b_or, DL.b_not, DL.b_cmp, DL.b_chain, DL.b_val, DL.bs_nil, DL.bs_cons, DL.g_name, DL.g_tup, DL.g_sub, DL.gs_nil, DL.gs_cons, DL.i_seq, DL.i_range1, DL.i_range2, DL.i_range3, DL.i_enum, DL.i_zip, DL.s_nil, DL.s_cons, DL.s_expr, DL.s_ret, DL.s_retN, DL.s_pass, DL.s_brk, DL.s_cont, DL.s_asg, DL.s_par2, DL.s_par3, DL.s_setLc, DL.s_augA, DL.s_augS, DL.s_append, DL.s_if, DL.s_while, DL.s_for, DL.o_add, DL.o_addT, DL.o_addL, DL.o_sub, DL.o_mul, DL.o_mulL, DL.o_fdiv, DL.o_mod, DL.o_pow, DL.o_shl, DL.o_shr, DL.q_lt, DL.q_le, DL.q_gt, DL.q_ge, DL.q_eqI, DL.q_neI, DL.q_eqS, DL.q_neS, DL.q_eqB, DL.q_neB, DL.q_isN, DL.q_notN, DL.q_isB, DL.q_notB, DL.t_bl, DL.t_int, DL.x_tup, DL.x_lst, DL.x_scr, DL.x_ref, DL.c_some, DL.n_f, DL.n_t, DL.f_lenT, DL.f_lenL, DL.f_lenC, DL.f_lenR, DL.f_abs, DL.f_min, DL.f_max, DL.f_intI, DL.f_intB, DL.f_tupT, DL.f_tupL, DL.f_tupR, DL.f_lstT, DL.f_lstL, DL.y_int, DL.y_bl, DL.y_str, DL.y_non, DL.y_tup, DL.y_lst, DL.z_tup, DL.z_lst, DL.z_enum, DL.isiD, DL.t_tup, DL.t_lst, DL.a_0, DL.a_1, DL.a_2, DL.a_3, DL.a_4, DL.a_5, DL.a_6, DL.ex_some, DL.ex_env, DL.ex_int, DL.ex_bl, DL.ex_ref, DL.ex_tup, DL.ex_int2, DL.ex_sub, DL.ex_cell, DL.ix_30, DL.ix_31, DL.ix_32, DL.CC.d, DL.startD, DL.wipeD, DL.i2, List.map_cons, List.map_nil, List.length_cons, List.length_nil, List.replicate, List.cons_append, List.nil_append, List.getElem?_cons_zero, List.getElem?_cons_succ, List.set_cons_zero, List.set_cons_succ, Nat.zero_add, Nat.reduceAdd, Nat.reduceSub, decide_eq_true_eq, Bool.not_eq_true', decide_eq_false_iff_not, if_true, Bool.false_eq_true, if_false, ite_true, ite_false, List.getD_cons_zero, List.getD_cons_succ, eq_self, not_true_eq_false, not_false_eq_true, Bool.true_eq_false, Bool.not_true, Bool.not_false])
      refine if_i (fun _ => ?_) fun _ => ?_
      · (try simp only [DL.e_var, DL.e_con, DL.e_glo, DL.e_bin, DL.e_neg, DL.e_cmp, DL.e_chain, DL.e_and, DL.e_or, DL.e_not, DL.e_ite, DL.e_tup, DL.e_lst, DL.e_ix, DL.e_sl, DL.e_call, DL.e_callK, DL.e_bi, DL.e_isi, DL.e_lc, DL.es_nil, DL.es_cons, DL.o_no, DL.o_yes, DL.b_and, DL.b_or, DL.b_not, DL.b_cmp, DL.b_chain, DL.b_val, DL.bs_nil, DL.bs_cons, DL.g_name, DL.g_tup, DL.g_sub, DL.gs_nil, DL.gs_cons, DL.i_seq, DL.i_range1, DL.i_range2, DL.i_range3, DL.i_enum, DL.i_zip, DL.s_nil, DL.s_cons, DL.s_expr, DL.s_ret, DL.s_retN, DL.s_pass, DL.s_brk, DL.s_cont, DL.s_asg, DL.s_par2, DL.s_par3, DL.s_setLc, DL.s_augA, DL.s_augS, DL.s_append, DL.s_if, DL.s_while, DL.s_for, DL.o_add, DL.o_addT, DL.o_addL, DL.o_sub, DL.o_mul, DL.o_mulL, DL.o_fdiv, DL.o_mod, DL.o_pow, DL.o_shl, DL.o_shr, DL.q_lt, DL.q_le, DL.q_gt, DL.q_ge, DL.q_eqI, DL.q_neI, DL.q_eqS, DL.q_neS, DL.q_eqB, DL.q_neB, DL.q_isN, DL.q_notN, DL.q_isB, DL.q_notB, DL.t_bl, DL.t_int, DL.x_tup, DL.x_lst, DL.x_scr, DL.x_ref, DL.c_some, DL.n_f, DL.n_t, DL.f_lenT, DL.f_lenL, DL.f_lenC, DL.f_lenR, DL.f_abs, DL.f_min, DL.f_max, DL.f_intI, DL.f_intB, DL.f_tupT, DL.f_tupL, DL.f_tupR, DL.f_lstT, DL.f_lstL, DL.y_int, DL.y_bl, DL.y_str, DL.y_non, DL.y_tup, DL.y_lst, DL.z_tup, DL.z_lst, DL.z_enum, DL.isiD, DL.t_tup, DL.t_lst, DL.a_0, DL.a_1, DL.a_2, DL.a_3, DL.a_4, DL.a_5, DL.a_6, DL.ex_some, DL.ex_env, DL.ex_int, DL.ex_bl, DL.ex_ref, DL.ex_tup, DL.ex_int2, DL.ex_sub, DL.ex_cell, DL.ix_30, DL.ix_31, DL.ix_32, DL.CC.d, DL.startD, DL.wipeD, DL.i2, List.map_cons, List.map_nil, List.length_cons, List.length_nil, List.replicate, List.cons_append, List.nil_append, List.getElem?_cons_zero, List.getElem?_cons_succ, List.set_cons_zero, List.set_cons_succ, Nat.zero_add, Nat.reduceAdd, Nat.reduceSub, decide_eq_true_eq, Bool.not_eq_true', decide_eq_false_iff_not, if_true, Bool.false_eq_true, if_false, ite_true, ite_false, List.getD_cons_zero, List.getD_cons_succ, eq_self, not_true_eq_false, not_false_eq_true, Bool.true_eq_false, Bool.not_true, Bool.not_false, G8])
        refine takeA hS6 ok (by omega) (by decide) (by decide) fun v7 g t7 S7 _ _ ok ht7 hS7 => ?_
        (try simp only [DL.e_var, DL.e_con, DL.e_glo, DL.e_bin, DL.e_neg, DL.e_cmp, DL.e_chain, DL.e_and, DL.e_or, DL.e_not, DL.e_ite, DL.e_tup, DL.e_lst, DL.e_ix, DL.e_sl, DL.e_call, DL.e_callK, DL.e_bi, DL.e_isi, DL.e_lc, DL.es_nil, DL.es_cons, DL.o_no, DL.o_yes, DL.b_and, DL.b_or, DL.b_not, DL.b_cmp, DL.b_chain, DL.b_val, DL.bs_nil, DL.bs_cons, DL.g_name, DL.g_tup, DL.g_sub, DL.gs_nil, DL.gs_cons, DL.i_seq, DL.i_range1, DL.i_range2, DL.i_range3, DL.i_enum, DL.i_zip, DL.s_nil, DL.s_cons, DL.s_expr, DL.s_ret, DL.s_retN, DL.s_pass, DL.s_brk, DL.s_cont, DL.s_asg, DL.s_par2, DL.s_par3, DL.s_setLc, DL.s_augA, DL.s_augS, DL.s_append, DL.s_if, DL.s_while, DL.s_for, DL.o_add, DL.o_addT, DL.o_addL, DL.o_sub, DL.o_mul, DL.o_mulL, DL.o_fdiv, DL.o_mod, DL.o_pow, DL.o_shl, DL.o_shr, DL.q_lt, DL.q_le, DL.q_gt, DL.q_ge, DL.q_eqI, DL.q_neI, DL.q_eqS, DL.q_neS, DL.q_eqB, DL.q_neB, DL.q_isN, DL.q_notN, DL.q_isB, DL.q_notB, DL.t_bl, DL.t_int, DL.x_tup, DL.x_lst, DL.x_scr, DL.x_ref, DL.c_some, DL.n_f, DL.n_t, DL.f_lenT, DL.f_lenL, DL.f_lenC, DL.f_lenR, DL.f_abs, DL.f_min, DL.f_max, DL.f_intI, DL.f_intB, DL.f_tupT, DL.f_tupL, DL.f_tupR, DL.f_lstT, DL.f_lstL, DL.y_int, DL.y_bl, DL.y_str, DL.y_non, DL.y_tup, DL.y_lst, DL.z_tup, DL.z_lst, DL.z_enum, DL.isiD, DL.t_tup, DL.t_lst, DL.a_0, DL.a_1, DL.a_2, DL.a_3, DL.a_4, DL.a_5, DL.a_6, DL.ex_some, DL.ex_env, DL.ex_int, DL.ex_bl, DL.ex_ref, DL.ex_tup, DL.ex_int2, DL.ex_sub, DL.ex_cell, DL.ix_30, DL.ix_31, DL.ix_32, DL.CC.d, DL.startD, DL.wipeD, DL.i2, List.map_cons, List.map_nil, List.length_cons, List.length_nil, List.replicate, List.cons_append, List.nil_append, List.getElem?_cons_zero, List.getElem?_cons_succ, List.set_cons_zero, List.set_cons_succ, Nat.zero_add, Nat.reduceAdd, Nat.reduceSub, decide_eq_true_eq, Bool.not_eq_true', decide_eq_false_iff_not, if_true, Bool.false_eq_true, if_false, ite_true, ite_false, List.getD_cons_zero, List.getD_cons_succ, eq_self, not_true_eq_false, not_false_eq_true, Bool.true_eq_false, Bool.not_true, Bool.not_false, G8])
        refine takeA hS7 ok (by omega) (by decide) (by decide) fun v8 g t8 S8 _ _ ok ht8 hS8 => ?_
        unfold hndD wshD
        have c2 : cutD [D.int a, D.int b, D.int f, D.int bits] (some 2) none = [.int f, .int bits] := rfl
        (try simp only [DL.e_var, DL.e_con, DL.e_glo, DL.e_bin, DL.e_neg, DL.e_cmp, DL.e_chain, DL.e_and, DL.e_or, DL.e_not, DL.e_ite, DL.e_tup, DL.e_lst, DL.e_ix, DL.e_sl, DL.e_call, DL.e_callK, DL.e_bi, DL.e_isi, DL.e_lc, DL.es_nil, DL.es_cons, DL.o_no, DL.o_yes, DL.b_and, DL.b_or, DL.b_not, DL.b_cmp, DL.b_chain, DL.b_val, DL.bs_nil, DL.bs_cons, DL.g_name, DL.g_tup, DL.g_sub, DL.gs_nil, DL.gs_cons, DL.i_seq, DL.i_range1, DL.i_range2, DL.i_range3, DL.i_enum, DL.i_zip, DL.s_nil, DL.s_cons, DL.s_expr, DL.s_ret, DL.s_retN, DL.s_pass, DL.s_brk, DL.s_cont, DL.s_asg, DL.s_par2, DL.s_par3, DL.s_setLc, DL.s_augA, DL.s_augS, DL.s_append, DL.s_if, DL.s_while, DL.s_for, DL.o_add, DL.o_addT, DL.o_addL, DL.o_sub, DL.o_mul, DL.o_mulL, DL.o_fdiv, DL.o_mod, DL.o_pow, DL.o_shl, DL.o_shr, DL.q_lt, DL.q_le, DL.q_gt, DL.q_ge, DL.q_eqI, DL.q_neI, DL.q_eqS, DL.q_neS, DL.q_eqB, DL.q_neB, DL.q_isN, DL.q_notN, DL.q_isB, DL.q_notB, DL.t_bl, DL.t_int, DL.x_tup, DL.x_lst, DL.x_scr, DL.x_ref, DL.c_some, DL.n_f, DL.n_t, DL.f_lenT, DL.f_lenL, DL.f_lenC, DL.f_lenR, DL.f_abs, DL.f_min, DL.f_max, DL.f_intI, DL.f_intB, DL.f_tupT, DL.f_tupL, DL.f_tupR, DL.f_lstT, DL.f_lstL, DL.y_int, DL.y_bl, DL.y_str, DL.y_non, DL.y_tup, DL.y_lst, DL.z_tup, DL.z_lst, DL.z_enum, DL.isiD, DL.t_tup, DL.t_lst, DL.a_0, DL.a_1, DL.a_2, DL.a_3, DL.a_4, DL.a_5, DL.a_6, DL.ex_some, DL.ex_env, DL.ex_int, DL.ex_bl, DL.ex_ref, DL.ex_tup, DL.ex_int2, DL.ex_sub, DL.ex_cell, DL.ix_30, DL.ix_31, DL.ix_32, DL.CC.d, DL.startD, DL.wipeD, DL.i2, List.map_cons, List.map_nil, List.length_cons, List.length_nil, List.replicate, List.cons_append, List.nil_append, List.getElem?_cons_zero, List.getElem?_cons_succ, List.set_cons_zero, List.set_cons_succ, Nat.zero_add, Nat.reduceAdd, Nat.reduceSub, decide_eq_true_eq, Bool.not_eq_true', decide_eq_false_iff_not, if_true, Bool.false_eq_true, if_false, ite_true, ite_false, List.getD_cons_zero, List.getD_cons_succ, eq_self, not_true_eq_false, not_false_eq_true, Bool.true_eq_false, Bool.not_true, Bool.not_false, x_sl, c2, G8])
        refine ⟨by decide, mul_small_left (by decide) (by decide), ?_⟩
        refine takeA hS8 ok (by omega) (by omega) (by omega) fun v9 g t9 S9 _ _ ok ht9 hS9 => ?_
        (try simp only [DL.e_var, DL.e_con, DL.e_glo, DL.e_bin, DL.e_neg, DL.e_cmp, DL.e_chain, DL.e_and, DL.e_or, DL.e_not, DL.e_ite, DL.e_tup, DL.e_lst, DL.e_ix, DL.e_sl, DL.e_call, DL.e_callK, DL.e_bi, DL.e_isi, DL.e_lc, DL.es_nil, DL.es_cons, DL.o_no, DL.o_yes, DL.b_and, DL.b_or, DL.b_not, DL.b_cmp, DL.b_chain, DL.b_val, DL.bs_nil, DL.bs_cons, DL.g_name, DL.g_tup, DL.g_sub, DL.gs_nil, DL.gs_cons, DL.i_seq, DL.i_range1, DL.i_range2, DL.i_range3, DL.i_enum, DL.i_zip, DL.s_nil, DL.s_cons, DL.s_expr, DL.s_ret, DL.s_retN, DL.s_pass, DL.s_brk, DL.s_cont, DL.s_asg, DL.s_par2, DL.s_par3, DL.s_setLc, DL.s_augA, DL.s_augS, DL.s_append, DL.s_if, DL.s_while, DL.s_for, DL.o_add, DL.o_addT, DL.o_addL, DL.o_sub, DL.o_mul, DL.o_mulL, DL.o_fdiv, DL.o_mod, DL.o_pow, DL.o_shl, DL.o_shr, DL.q_lt, DL.q_le, DL.q_gt, DL.q_ge, DL.q_eqI, DL.q_neI, DL.q_eqS, DL.q_neS, DL.q_eqB, DL.q_neB, DL.q_isN, DL.q_notN, DL.q_isB, DL.q_notB, DL.t_bl, DL.t_int, DL.x_tup, DL.x_lst, DL.x_scr, DL.x_ref, DL.c_some, DL.n_f, DL.n_t, DL.f_lenT, DL.f_lenL, DL.f_lenC, DL.f_lenR, DL.f_abs, DL.f_min, DL.f_max, DL.f_intI, DL.f_intB, DL.f_tupT, DL.f_tupL, DL.f_tupR, DL.f_lstT, DL.f_lstL, DL.y_int, DL.y_bl, DL.y_str, DL.y_non, DL.y_tup, DL.y_lst, DL.z_tup, DL.z_lst, DL.z_enum, DL.isiD, DL.t_tup, DL.t_lst, DL.a_0, DL.a_1, DL.a_2, DL.a_3, DL.a_4, DL.a_5, DL.a_6, DL.ex_some, DL.ex_env, DL.ex_int, DL.ex_bl, DL.ex_ref, DL.ex_tup, DL.ex_int2, DL.ex_sub, DL.ex_cell, DL.ix_30, DL.ix_31, DL.ix_32, DL.CC.d, DL.startD, DL.wipeD, DL.i2, List.map_cons, List.map_nil, List.length_cons, List.length_nil, List.replicate, List.cons_append, List.nil_append, List.getElem?_cons_zero, List.getElem?_cons_succ, List.set_cons_zero, List.set_cons_succ, Nat.zero_add, Nat.reduceAdd, Nat.reduceSub, decide_eq_true_eq, Bool.not_eq_true', decide_eq_false_iff_not, if_true, Bool.false_eq_true, if_false, ite_true, ite_false, List.getD_cons_zero, List.getD_cons_succ, eq_self, not_true_eq_false, not_false_eq_true, Bool.true_eq_false, Bool.not_true, Bool.not_false, G8])
        refine ⟨mul_small_left (by decide) (by decide), ?_⟩
        refine takeA hS9 ok (by omega) (by omega) (by omega) fun v10 g t10 S10 _ _ ok ht10 hS10 => ?_
        (try simp only [DL.e_var, DL.e_con, DL.e_glo, DL.e_bin, DL.e_neg, DL.e_cmp, DL.e_chain, DL.e_and, DL.e_or, DL.e_not, DL.e_ite, DL.e_tup, DL.e_lst, DL.e_ix, DL.e_sl, DL.e_call, DL.e_callK, DL.e_bi, DL.e_isi, DL.e_lc, DL.es_nil, DL.es_cons, DL.o_no, DL.o_yes, DL.b_and, DL.b_or, DL.b_not, DL.b_cmp, DL.b_chain, DL.b_val, DL.bs_nil, DL.bs_cons, DL.g_name, DL.g_tup, DL.g_sub, DL.gs_nil, DL.gs_cons, DL.i_seq, DL.i_range1, DL.i_range2, DL.i_range3, DL.i_enum, DL.i_zip, DL.s_nil, DL.s_cons, DL.s_expr, DL.s_ret, DL.s_retN, DL.s_pass, DL.s_brk, DL.s_cont, DL.s_asg, DL.s_par2, DL.s_par3, DL.s_setLc, DL.s_augA, DL.s_augS, DL.s_append, DL.s_if, DL.s_while, DL.s_for, DL.o_add, DL.o_addT, DL.o_addL, DL.o_sub, DL.o_mul, DL.o_mulL, DL.o_fdiv, DL.o_mod, DL.o_pow, DL.o_shl, DL.o_shr, DL.q_lt, DL.q_le, DL.q_gt, DL.q_ge, DL.q_eqI, DL.q_neI, DL.q_eqS, DL.q_neS, DL.q_eqB, DL.q_neB, DL.q_isN, DL.q_notN, DL.q_isB, DL.q_notB, DL.t_bl, DL.t_int, DL.x_tup, DL.x_lst, DL.x_scr, DL.x_ref, DL.c_some, DL.n_f, DL.n_t, DL.f_lenT, DL.f_lenL, DL.f_lenC, DL.f_lenR, DL.f_abs, DL.f_min, DL.f_max, DL.f_intI, DL.f_intB, DL.f_tupT, DL.f_tupL, DL.f_tupR, DL.f_lstT, DL.f_lstL, DL.y_int, DL.y_bl, DL.y_str, DL.y_non, DL.y_tup, DL.y_lst, DL.z_tup, DL.z_lst, DL.z_enum, DL.isiD, DL.t_tup, DL.t_lst, DL.a_0, DL.a_1, DL.a_2, DL.a_3, DL.a_4, DL.a_5, DL.a_6, DL.ex_some, DL.ex_env, DL.ex_int, DL.ex_bl, DL.ex_ref, DL.ex_tup, DL.ex_int2, DL.ex_sub, DL.ex_cell, DL.ix_30, DL.ix_31, DL.ix_32, DL.CC.d, DL.startD, DL.wipeD, DL.i2, List.map_cons, List.map_nil, List.length_cons, List.length_nil, List.replicate, List.cons_append, List.nil_append, List.getElem?_cons_zero, List.getElem?_cons_succ, List.set_cons_zero, List.set_cons_succ, Nat.zero_add, Nat.reduceAdd, Nat.reduceSub, decide_eq_true_eq, Bool.not_eq_true', decide_eq_false_iff_not, if_true, Bool.false_eq_true, if_false, ite_true, ite_false, List.getD_cons_zero, List.getD_cons_succ, eq_self, not_true_eq_false, not_false_eq_true, Bool.true_eq_false, Bool.not_true, Bool.not_false, G16])
        refine ⟨_, _, f, bits, X, V, P, _, _, rfl, ⟨⟨by omega, by omega, by omega, by omega, hh.f1, hh.f2, hh.k1, hh.k2⟩, by omega, by omega, by omega, by omega, by omega, by omega, by omega, by omega, by omega, by omega, by omega, by omega, by omega, by omega⟩, ?_⟩
        (try simp only [DL.e_var, DL.e_con, DL.e_glo, DL.e_bin, DL.e_neg, DL.e_cmp, DL.e_chain, DL.e_and, DL.e_or, DL.e_not, DL.e_ite, DL.e_tup, DL.e_lst, DL.e_ix, DL.e_sl, DL.e_call, DL.e_callK, DL.e_bi, DL.e_isi, DL.e_lc, DL.es_nil, DL.es_cons, DL.o_no, DL.o_yes, DL.b_and, DL.b_or, DL.b_not, DL.b_cmp, DL.b_chain, DL.b_val, DL.bs_nil, DL.bs_cons, DL.g_name, DL.g_tup, DL.g_sub, DL.gs_nil, DL.gs_cons, DL.i_seq, DL.i_range1, DL.i_range2, DL.i_range3, DL.i_enum, DL.i_zip, DL.s_nil, DL.s_cons, DL.s_expr, DL.s_ret, DL.s_retN, DL.s_pass, DL.s_brk, DL.s_cont, DL.s_asg, DL.s_par2, DL.s_par3, DL.s_setLc, DL.s_augA, DL.s_augS, DL.s_append, DL.s_if, DL.s_while, DL.s_for, DL.o_add, DL.o_addT, DL.o_addL, DL.o_sub, DL.o_mul, DL.o_mulL, DL.o_fdiv, DL.o_mod, DL.o_pow, DL.o_shl, DL.o_shr, DL.q_lt, DL.q_le, DL.q_gt, DL.q_ge, DL.q_eqI, DL.q_neI, DL.q_eqS, DL.q_neS, DL.q_eqB, DL.q_neB, DL.q_isN, DL.q_notN, DL.q_isB, DL.q_notB, DL.t_bl, DL.t_int, DL.x_tup, DL.x_lst, DL.x_scr, DL.x_ref, DL.c_some, DL.n_f, DL.n_t, DL.f_lenT, DL.f_lenL, DL.f_lenC, DL.f_lenR, DL.f_abs, DL.f_min, DL.f_max, DL.f_intI, DL.f_intB, DL.f_tupT, DL.f_tupL, DL.f_tupR, DL.f_lstT, DL.f_lstL, DL.y_int, DL.y_bl, DL.y_str, DL.y_non, DL.y_tup, DL.y_lst, DL.z_tup, DL.z_lst, DL.z_enum, DL.isiD, DL.t_tup, DL.t_lst, DL.a_0, DL.a_1, DL.a_2, DL.a_3, DL.a_4, DL.a_5, DL.a_6, DL.ex_some, DL.ex_env, DL.ex_int, DL.ex_bl, DL.ex_ref, DL.ex_tup, DL.ex_int2, DL.ex_sub, DL.ex_cell, DL.ix_30, DL.ix_31, DL.ix_32, DL.CC.d, DL.startD, DL.wipeD, DL.i2, List.map_cons, List.map_nil, List.length_cons, List.length_nil, List.replicate, List.cons_append, List.nil_append, List.getElem?_cons_zero, List.getElem?_cons_succ, List.set_cons_zero, List.set_cons_succ, Nat.zero_add, Nat.reduceAdd, Nat.reduceSub, decide_eq_true_eq, Bool.not_eq_true', decide_eq_false_iff_not, if_true, Bool.false_eq_true, if_false, ite_true, ite_false, List.getD_cons_zero, List.getD_cons_succ, eq_self, not_true_eq_false, not_false_eq_true, Bool.true_eq_false, Bool.not_true, Bool.not_false])
        exact ⟨g, t10, _, _, _, _, _, _, rfl, hS10, ok, by omega⟩
      · unfold hndD wshD
        (try simp only [DL.e_var, DL.e_con, DL.e_glo, DL.e_bin, DL.e_neg, DL.e_cmp, DL.e_chain, DL.e_and, DL.e_or, DL.e_not, DL.e_ite, DL.e_tup, DL.e_lst, DL.e_ix, DL.e_sl, DL.e_call, DL.e_callK, DL.e_bi, DL.e_isi, DL.e_lc, DL.es_nil, DL.es_cons, DL.o_no, DL.o_yes, DL.b_and, DL.b_or, DL.b_not, DL.b_cmp, DL.b_chain, DL.b_val, DL.bs_nil, DL.bs_cons, DL.g_name, DL.g_tup, DL.g_sub, DL.gs_nil, DL.gs_cons, DL.i_seq, DL.i_range1, DL.i_range2, DL.i_range3, DL.i_enum, DL.i_zip, DL.s_nil, DL.s_cons, DL.s_expr, DL.s_ret, DL.s_retN, DL.s_pass, DL.s_brk, DL.s_cont, DL.s_asg, DL.s_par2, DL.s_par3, DL.s_setLc, DL.s_augA, DL.s_augS, DL.s_append, DL.s_if, DL.s_while, DL.s_for, DL.o_add, DL.o_addT, DL.o_addL, DL.o_sub, DL.o_mul, DL.o_mulL, DL.o_fdiv, DL.o_mod, DL.o_pow, DL.o_shl, DL.o_shr, DL.q_lt, DL.q_le, DL.q_gt, DL.q_ge, DL.q_eqI, DL.q_neI, DL.q_eqS, DL.q_neS, DL.q_eqB, DL.q_neB, DL.q_isN, DL.q_notN, DL.q_isB, DL.q_notB, DL.t_bl, DL.t_int, DL.x_tup, DL.x_lst, DL.x_scr, DL.x_ref, DL.c_some, DL.n_f, DL.n_t, DL.f_lenT, DL.f_lenL, DL.f_lenC, DL.f_lenR, DL.f_abs, DL.f_min, DL.f_max, DL.f_intI, DL.f_intB, DL.f_tupT, DL.f_tupL, DL.f_tupR, DL.f_lstT, DL.f_lstL, DL.y_int, DL.y_bl, DL.y_str, DL.y_non, DL.y_tup, DL.y_lst, DL.z_tup, DL.z_lst, DL.z_enum, DL.isiD, DL.t_tup, DL.t_lst, DL.a_0, DL.a_1, DL.a_2, DL.a_3, DL.a_4, DL.a_5, DL.a_6, DL.ex_some, DL.ex_env, DL.ex_int, DL.ex_bl, DL.ex_ref, DL.ex_tup, DL.ex_int2, DL.ex_sub, DL.ex_cell, DL.ix_30, DL.ix_31, DL.ix_32, DL.CC.d, DL.startD, DL.wipeD, DL.i2, List.map_cons, List.map_nil, List.length_cons, List.length_nil, List.replicate, List.cons_append, List.nil_append, List.getElem?_cons_zero, List.getElem?_cons_succ, List.set_cons_zero, List.set_cons_succ, Nat.zero_add, Nat.reduceAdd, Nat.reduceSub, decide_eq_true_eq, Bool.not_eq_true', decide_eq_false_iff_not, if_true, Bool.false_eq_true, if_false, ite_true, ite_false, List.getD_cons_zero, List.getD_cons_succ, eq_self, not_true_eq_false, not_false_eq_true, Bool.true_eq_false, Bool.not_true, Bool.not_false, G8])
        refine ⟨mul_small_left (by decide) (by decide), ?_⟩
        refine takeA hS6 ok (by omega) (by omega) (by omega) fun v9 g t9 S9 _ _ ok ht9 hS9 => ?_
        (try simp only [DL.e_var, DL.e_con, DL.e_glo, DL.e_bin, DL.e_neg, DL.e_cmp, DL.e_chain, DL.e_and, DL.e_or, DL.e_not, DL.e_ite, DL.e_tup, DL.e_lst, DL.e_ix, DL.e_sl, DL.e_call, DL.e_callK, DL.e_bi, DL.e_isi, DL.e_lc, DL.es_nil, DL.es_cons, DL.o_no, DL.o_yes, DL.b_and, DL.b_or, DL.b_not, DL.b_cmp, DL.b_chain, DL.b_val, DL.bs_nil, DL.bs_cons, DL.g_name, DL.g_tup, DL.g_sub, DL.gs_nil, DL.gs_cons, DL.i_seq, DL.i_range1, DL.i_range2, DL.i_range3, DL.i_enum, DL.i_zip, DL.s_nil, DL.s_cons, DL.s_expr, DL.s_ret, DL.s_retN, DL.s_pass, DL.s_brk, DL.s_cont, DL.s_asg, DL.s_par2, DL.s_par3, DL.s_setLc, DL.s_augA, DL.s_augS, DL.s_append, DL.s_if, DL.s_while, DL.s_for, DL.o_add, DL.o_addT, DL.o_addL, DL.o_sub, DL.o_mul, DL.o_mulL, DL.o_fdiv, DL.o_mod, DL.o_pow, DL.o_shl, DL.o_shr, DL.q_lt, DL.q_le, DL.q_gt, DL.q_ge, DL.q_eqI, DL.q_neI, DL.q_eqS, DL.q_neS, DL.q_eqB, DL.q_neB, DL.q_isN, DL.q_notN, DL.q_isB, DL.q_notB, DL.t_bl, DL.t_int, DL.x_tup, DL.x_lst, DL.x_scr, DL.x_ref, DL.c_some, DL.n_f, DL.n_t, DL.f_lenT, DL.f_lenL, DL.f_lenC, DL.f_lenR, DL.f_abs, DL.f_min, DL.f_max, DL.f_intI, DL.f_intB, DL.f_tupT, DL.f_tupL, DL.f_tupR, DL.f_lstT, DL.f_lstL, DL.y_int, DL.y_bl, DL.y_str, DL.y_non, DL.y_tup, DL.y_lst, DL.z_tup, DL.z_lst, DL.z_enum, DL.isiD, DL.t_tup, DL.t_lst, DL.a_0, DL.a_1, DL.a_2, DL.a_3, DL.a_4, DL.a_5, DL.a_6, DL.ex_some, DL.ex_env, DL.ex_int, DL.ex_bl, DL.ex_ref, DL.ex_tup, DL.ex_int2, DL.ex_sub, DL.ex_cell, DL.ix_30, DL.ix_31, DL.ix_32, DL.CC.d, DL.startD, DL.wipeD, DL.i2, List.map_cons, List.map_nil, List.length_cons, List.length_nil, List.replicate, List.cons_append, List.nil_append, List.getElem?_cons_zero, List.getElem?_cons_succ, List.set_cons_zero, List.set_cons_succ, Nat.zero_add, Nat.reduceAdd, Nat.reduceSub, decide_eq_true_eq, Bool.not_eq_true', decide_eq_false_iff_not, if_true, Bool.false_eq_true, if_false, ite_true, ite_false, List.getD_cons_zero, List.getD_cons_succ, eq_self, not_true_eq_false, not_false_eq_true, Bool.true_eq_false, Bool.not_true, Bool.not_false, G8])
        refine ⟨mul_small_left (by decide) (by decide), ?_⟩
        refine takeA hS9 ok (by omega) (by omega) (by omega) fun v10 g t10 S10 _ _ ok ht10 hS10 => ?_
        (try simp only [DL.e_var, DL.e_con, DL.e_glo, DL.e_bin, DL.e_neg, DL.e_cmp, DL.e_chain, DL.e_and, DL.e_or, DL.e_not, DL.e_ite, DL.e_tup, DL.e_lst, DL.e_ix, DL.e_sl, DL.e_call, DL.e_callK, DL.e_bi, DL.e_isi, DL.e_lc, DL.es_nil, DL.es_cons, DL.o_no, DL.o_yes, DL.b_and, DL.b_or, DL.b_not, DL.b_cmp, DL.b_chain, DL.b_val, DL.bs_nil, DL.bs_cons, DL.g_name, DL.g_tup, DL.g_sub, DL.gs_nil, DL.gs_cons, DL.i_seq, DL.i_range1, DL.i_range2, DL.i_range3, DL.i_enum, DL.i_zip, DL.s_nil, DL.s_cons, DL.s_expr, DL.s_ret, DL.s_retN, DL.s_pass, DL.s_brk, DL.s_cont, DL.s_asg, DL.s_par2, DL.s_par3, DL.s_setLc, DL.s_augA, DL.s_augS, DL.s_append, DL.s_if, DL.s_while, DL.s_for, DL.o_add, DL.o_addT, DL.o_addL, DL.o_sub, DL.o_mul, DL.o_mulL, DL.o_fdiv, DL.o_mod, DL.o_pow, DL.o_shl, DL.o_shr, DL.q_lt, DL.q_le, DL.q_gt, DL.q_ge, DL.q_eqI, DL.q_neI, DL.q_eqS, DL.q_neS, DL.q_eqB, DL.q_neB, DL.q_isN, DL.q_notN, DL.q_isB, DL.q_notB, DL.t_bl, DL.t_int, DL.x_tup, DL.x_lst, DL.x_scr, DL.x_ref, DL.c_some, DL.n_f, DL.n_t, DL.f_lenT, DL.f_lenL, DL.f_lenC, DL.f_lenR, DL.f_abs, DL.f_min, DL.f_max, DL.f_intI, DL.f_intB, DL.f_tupT, DL.f_tupL, DL.f_tupR, DL.f_lstT, DL.f_lstL, DL.y_int, DL.y_bl, DL.y_str, DL.y_non, DL.y_tup, DL.y_lst, DL.z_tup, DL.z_lst, DL.z_enum, DL.isiD, DL.t_tup, DL.t_lst, DL.a_0, DL.a_1, DL.a_2, DL.a_3, DL.a_4, DL.a_5, DL.a_6, DL.ex_some, DL.ex_env, DL.ex_int, DL.ex_bl, DL.ex_ref, DL.ex_tup, DL.ex_int2, DL.ex_sub, DL.ex_cell, DL.ix_30, DL.ix_31, DL.ix_32, DL.CC.d, DL.startD, DL.wipeD, DL.i2, List.map_cons, List.map_nil, List.length_cons, List.length_nil, List.replicate, List.cons_append, List.nil_append, List.getElem?_cons_zero, List.getElem?_cons_succ, List.set_cons_zero, List.set_cons_succ, Nat.zero_add, Nat.reduceAdd, Nat.reduceSub, decide_eq_true_eq, Bool.not_eq_true', decide_eq_false_iff_not, if_true, Bool.false_eq_true, if_false, ite_true, ite_false, List.getD_cons_zero, List.getD_cons_succ, eq_self, not_true_eq_false, not_false_eq_true, Bool.true_eq_false, Bool.not_true, Bool.not_false, G16])
        refine ⟨_, _, f, bits, X, V, P, _, _, rfl, ⟨hh, by omega, by omega, by omega, by omega, by omega, by omega, by omega, by omega, by omega, by omega, by omega, by omega, by omega, by omega⟩, ?_⟩
        (try simp only [DL.e_var, DL.e_con, DL.e_glo, DL.e_bin, DL.e_neg, DL.e_cmp, DL.e_chain, DL.e_and, DL.e_or, DL.e_not, DL.e_ite, DL.e_tup, DL.e_lst, DL.e_ix, DL.e_sl, DL.e_call, DL.e_callK, DL.e_bi, DL.e_isi, DL.e_lc, DL.es_nil, DL.es_cons, DL.o_no, DL.o_yes, DL.b_and, DL.b_or, DL.b_not, DL.b_cmp, DL.b_chain, DL.b_val, DL.bs_nil, DL.bs_cons, DL.g_name, DL.g_tup, DL.g_sub, DL.gs_nil, DL.gs_cons, DL.i_seq, DL.i_range1, DL.i_range2, DL.i_range3, DL.i_enum, DL.i_zip, DL.s_nil, DL.s_cons, DL.s_expr, DL.s_ret, DL.s_retN, DL.s_pass, DL.s_brk, DL.s_cont, DL.s_asg, DL.s_par2, DL.s_par3, DL.s_setLc, DL.s_augA, DL.s_augS, DL.s_append, DL.s_if, DL.s_while, DL.s_for, DL.o_add, DL.o_addT, DL.o_addL, DL.o_sub, DL.o_mul, DL.o_mulL, DL.o_fdiv, DL.o_mod, DL.o_pow, DL.o_shl, DL.o_shr, DL.q_lt, DL.q_le, DL.q_gt, DL.q_ge, DL.q_eqI, DL.q_neI, DL.q_eqS, DL.q_neS, DL.q_eqB, DL.q_neB, DL.q_isN, DL.q_notN, DL.q_isB, DL.q_notB, DL.t_bl, DL.t_int, DL.x_tup, DL.x_lst, DL.x_scr, DL.x_ref, DL.c_some, DL.n_f, DL.n_t, DL.f_lenT, DL.f_lenL, DL.f_lenC, DL.f_lenR, DL.f_abs, DL.f_min, DL.f_max, DL.f_intI, DL.f_intB, DL.f_tupT, DL.f_tupL, DL.f_tupR, DL.f_lstT, DL.f_lstL, DL.y_int, DL.y_bl, DL.y_str, DL.y_non, DL.y_tup, DL.y_lst, DL.z_tup, DL.z_lst, DL.z_enum, DL.isiD, DL.t_tup, DL.t_lst, DL.a_0, DL.a_1, DL.a_2, DL.a_3, DL.a_4, DL.a_5, DL.a_6, DL.ex_some, DL.ex_env, DL.ex_int, DL.ex_bl, DL.ex_ref, DL.ex_tup, DL.ex_int2, DL.ex_sub, DL.ex_cell, DL.ix_30, DL.ix_31, DL.ix_32, DL.CC.d, DL.startD, DL.wipeD, DL.i2, List.map_cons, List.map_nil, List.length_cons, List.length_nil, List.replicate, List.cons_append, List.nil_append, List.getElem?_cons_zero, List.getElem?_cons_succ, List.set_cons_zero, List.set_cons_succ, Nat.zero_add, Nat.reduceAdd, Nat.reduceSub, decide_eq_true_eq, Bool.not_eq_true', decide_eq_false_iff_not, if_true, Bool.false_eq_true, if_false, ite_true, ite_false, List.getD_cons_zero, List.getD_cons_succ, eq_self, not_true_eq_false, not_false_eq_true, Bool.true_eq_false, Bool.not_true, Bool.not_false])
        exact ⟨g, t10, _, _, _, _, _, _, rfl, hS10, ok, by omega⟩
    · obtain ⟨g, t, r1, r3, r6, r7, r8, r9, rfl, hS4, ok, ht⟩ := hp
      exact ⟨_, _, _, _, _, _, _, _, _, rfl⟩
  · obtain ⟨r1, r2, r3, r4, r5, r6, r7, r8, r9, rfl⟩ := hp
    (try simp only [DL.e_var, DL.e_con, DL.e_glo, DL.e_bin, DL.e_neg, DL.e_cmp, DL.e_chain, DL.e_and, DL.e_or, DL.e_not, DL.e_ite, DL.e_tup, DL.e_lst, DL.e_ix, DL.e_sl, DL.e_call, DL.e_callK, DL.e_bi, DL.e_isi, DL.e_lc, DL.es_nil, DL.es_cons, DL.o_no, DL.o_yes, DL.b_and, DL.b_or, DL.b_not, DL.b_cmp, DL.b_chain, DL.b_val, DL.bs_nil, DL.bs_cons, DL.g_name, DL.g_tup, DL.g_sub, DL.gs_nil, DL.gs_cons, DL.i_seq, DL.i_range1, DL.i_range2, DL.i_range3, DL.i_enum, DL.i_zip, DL.s_nil, DL.s_cons, DL.s_expr, DL.s_ret, DL.s_retN, DL.s_pass, DL.s_brk, DL.s_cont, DL.s_asg, DL.s_par2, DL.s_par3, DL.s_setLc, DL.s_augA, DL.s_augS, DL.s_append, DL.s_if, DL.s_while, DL.s_for, DL.o_add, DL.o_addT, DL.o_addL, DL.o_sub, DL.o_mul, DL.o_mulL, DL.o_fdiv, DL.o_mod, DL.o_pow, DL.o_shl, DL.o_shr, DL.q_lt, DL.q_le, DL.q_gt, DL.q_ge, DL.q_eqI, DL.q_neI, DL.q_eqS, DL.q_neS, DL.q_eqB, DL.q_neB, DL.q_isN, DL.q_notN, DL.q_isB, DL.q_notB, DL.t_bl, DL.t_int, DL.x_tup, DL.x_lst, DL.x_scr, DL.x_ref, DL.c_some, DL.n_f, DL.n_t, DL.f_lenT, DL.f_lenL, DL.f_lenC, DL.f_lenR, DL.f_abs, DL.f_min, DL.f_max, DL.f_intI, DL.f_intB, DL.f_tupT, DL.f_tupL, DL.f_tupR, DL.f_lstT, DL.f_lstL, DL.y_int, DL.y_bl, DL.y_str, DL.y_non, DL.y_tup, DL.y_lst, DL.z_tup, DL.z_lst, DL.z_enum, DL.isiD, DL.t_tup, DL.t_lst, DL.a_0, DL.a_1, DL.a_2, DL.a_3, DL.a_4, DL.a_5, DL.a_6, DL.ex_some, DL.ex_env, DL.ex_int, DL.ex_bl, DL.ex_ref, DL.ex_tup, DL.ex_int2, DL.ex_sub, DL.ex_cell, DL.ix_30, DL.ix_31, DL.ix_32, DL.CC.d, DL.startD, DL.wipeD, DL.i2, List.map_cons, List.map_nil, List.length_cons, List.length_nil, List.replicate, List.cons_append, List.nil_append, List.getElem?_cons_zero, List.getElem?_cons_succ, List.set_cons_zero, List.set_cons_succ, Nat.zero_add, Nat.reduceAdd, Nat.reduceSub, decide_eq_true_eq, Bool.not_eq_true', decide_eq_false_iff_not, if_true, Bool.false_eq_true, if_false, ite_true, ite_false, List.getD_cons_zero, List.getD_cons_succ, eq_self, not_true_eq_false, not_false_eq_true, Bool.true_eq_false, Bool.not_true, Bool.not_false])
    exact hQ _
end Law_k36

namespace Law_k36
open PySem PySem.Spec PyProof.Rows L2 DL
theorem kb6_0 {K : PySem.W.Frag} {kV dc pm cd ct : Value} {an : Option Addr} : KBinds K (PySem.W.fnOf "wish_at" "wish_at" (L2.defArgs s6) (L2.defBody s6) (L2.defScope s6) .none kV dc pm an cd ct) p6 ["t", "wishes"] (gK .none 2 [1, 0]) (gK .non 2 [1, 0]) :=
  kb_kw (fun h => nomatch h) fun us ws h1 h2 => match us, ws, h1, h2 with | [], [_, _], _, _ => rfl
theorem all_mk {l : PySem.W.OpenLaw} {w : World} {K : PySem.W.Frag} {h : Heap} {mg : Str → Option Value} {fa : Addr} (X : K.In h) (Gn : h.Ns mainGlobals mg) (hfa : mg "law" = some (.ref fa))
    {f0 f1 f2 f3 f4 f5 f6 f7 f8 f9 f10 f11 f12 f13 f14 f15 f16 f17 : Addr} {od0 an0 od1 an1 od2 an2 od3 an3 od4 an4 od5 an5 od6 an6 od7 an7 od8 an8 od9 an9 od10 an10 od11 an11 od12 an12 od13 an13 od14 an14 od15 an15 od16 an16 od17 an17 : Option Addr} {sl0 sl1 sl2 sl3 sl4 sl5 sl6 sl7 sl8 sl9 sl10 sl11 sl12 sl13 sl14 sl15 sl16 sl17 : Array (Option Value)} {oc0 kV0 dc0 pm0 cd0 ct0 oc1 kV1 dc1 pm1 cd1 ct1 oc2 kV2 dc2 pm2 cd2 ct2 oc3 kV3 dc3 pm3 cd3 ct3 oc4 kV4 dc4 pm4 cd4 ct4 oc5 kV5 dc5 pm5 cd5 ct5 oc6 kV6 dc6 pm6 cd6 ct6 oc7 kV7 dc7 pm7 cd7 ct7 oc8 kV8 dc8 pm8 cd8 ct8 oc9 kV9 dc9 pm9 cd9 ct9 oc10 kV10 dc10 pm10 cd10 ct10 oc11 kV11 dc11 pm11 cd11 ct11 oc12 kV12 dc12 pm12 cd12 ct12 oc13 kV13 dc13 pm13 cd13 ct13 oc14 kV14 dc14 pm14 cd14 ct14 oc15 kV15 dc15 pm15 cd15 ct15 oc16 kV16 dc16 pm16 cd16 ct16 oc17 kV17 dc17 pm17 cd17 ct17 : Value}
    (a0 : PySem.W.nsIn K mainGlobals "common" = some (some (.ref f0))) (l0 : K.lookup f0 = some ⟨oc0, od0, .func (PySem.W.fnOf "common" "common" (L2.defArgs s0) (L2.defBody s0) (L2.defScope s0) .none kV0 dc0 pm0 an0 cd0 ct0), sl0⟩) (d0 : PySem.W.codeIn K cd0 "common" = true) (k0 : PySem.W.keepIn K (.ref f0) = true)
    (a1 : PySem.W.nsIn K mainGlobals "made" = some (some (.ref f1))) (l1 : K.lookup f1 = some ⟨oc1, od1, .func (PySem.W.fnOf "made" "made" (L2.defArgs s1) (L2.defBody s1) (L2.defScope s1) .none kV1 dc1 pm1 an1 cd1 ct1), sl1⟩) (d1 : PySem.W.codeIn K cd1 "made" = true) (k1 : PySem.W.keepIn K (.ref f1) = true)
    (a2 : PySem.W.nsIn K mainGlobals "parted" = some (some (.ref f2))) (l2 : K.lookup f2 = some ⟨oc2, od2, .func (PySem.W.fnOf "parted" "parted" (L2.defArgs s2) (L2.defBody s2) (L2.defScope s2) .none kV2 dc2 pm2 an2 cd2 ct2), sl2⟩) (d2 : PySem.W.codeIn K cd2 "parted" = true) (k2 : PySem.W.keepIn K (.ref f2) = true)
    (a3 : PySem.W.nsIn K mainGlobals "exact" = some (some (.ref f3))) (l3 : K.lookup f3 = some ⟨oc3, od3, .func (PySem.W.fnOf "exact" "exact" (L2.defArgs s3) (L2.defBody s3) (L2.defScope s3) .none kV3 dc3 pm3 an3 cd3 ct3), sl3⟩) (d3 : PySem.W.codeIn K cd3 "exact" = true) (k3 : PySem.W.keepIn K (.ref f3) = true)
    (a4 : PySem.W.nsIn K mainGlobals "numbers" = some (some (.ref f4))) (l4 : K.lookup f4 = some ⟨oc4, od4, .func (PySem.W.fnOf "numbers" "numbers" (L2.defArgs s4) (L2.defBody s4) (L2.defScope s4) .none kV4 dc4 pm4 an4 cd4 ct4), sl4⟩) (d4 : PySem.W.codeIn K cd4 "numbers" = true) (k4 : PySem.W.keepIn K (.ref f4) = true)
    (a5 : PySem.W.nsIn K mainGlobals "pushed" = some (some (.ref f5))) (l5 : K.lookup f5 = some ⟨oc5, od5, .func (PySem.W.fnOf "pushed" "pushed" (L2.defArgs s5) (L2.defBody s5) (L2.defScope s5) .none kV5 dc5 pm5 an5 cd5 ct5), sl5⟩) (d5 : PySem.W.codeIn K cd5 "pushed" = true) (k5 : PySem.W.keepIn K (.ref f5) = true)
    (a6 : PySem.W.nsIn K mainGlobals "wish_at" = some (some (.ref f6))) (l6 : K.lookup f6 = some ⟨oc6, od6, .func (PySem.W.fnOf "wish_at" "wish_at" (L2.defArgs s6) (L2.defBody s6) (L2.defScope s6) .none kV6 dc6 pm6 an6 cd6 ct6), sl6⟩) (d6 : PySem.W.codeIn K cd6 "wish_at" = true) (k6 : PySem.W.keepIn K (.ref f6) = true)
    (a7 : PySem.W.nsIn K mainGlobals "_law_hand" = some (some (.ref f7))) (l7 : K.lookup f7 = some ⟨oc7, od7, .func (PySem.W.fnOf "_law_hand" "_law_hand" (L2.defArgs s7) (L2.defBody s7) (L2.defScope s7) .none kV7 dc7 pm7 an7 cd7 ct7), sl7⟩) (d7 : PySem.W.codeIn K cd7 "_law_hand" = true) (k7 : PySem.W.keepIn K (.ref f7) = true)
    (a8 : PySem.W.nsIn K mainGlobals "_law_take" = some (some (.ref f8))) (l8 : K.lookup f8 = some ⟨oc8, od8, .func (PySem.W.fnOf "_law_take" "_law_take" (L2.defArgs s8) (L2.defBody s8) (L2.defScope s8) .none kV8 dc8 pm8 an8 cd8 ct8), sl8⟩) (d8 : PySem.W.codeIn K cd8 "_law_take" = true) (k8 : PySem.W.keepIn K (.ref f8) = true)
    (a9 : PySem.W.nsIn K mainGlobals "_law_pick" = some (some (.ref f9))) (l9 : K.lookup f9 = some ⟨oc9, od9, .func (PySem.W.fnOf "_law_pick" "_law_pick" (L2.defArgs s9) (L2.defBody s9) (L2.defScope s9) .none kV9 dc9 pm9 an9 cd9 ct9), sl9⟩) (d9 : PySem.W.codeIn K cd9 "_law_pick" = true) (k9 : PySem.W.keepIn K (.ref f9) = true)
    (a10 : PySem.W.nsIn K mainGlobals "_law_gain_pair" = some (some (.ref f10))) (l10 : K.lookup f10 = some ⟨oc10, od10, .func (PySem.W.fnOf "_law_gain_pair" "_law_gain_pair" (L2.defArgs s10) (L2.defBody s10) (L2.defScope s10) .none kV10 dc10 pm10 an10 cd10 ct10), sl10⟩) (d10 : PySem.W.codeIn K cd10 "_law_gain_pair" = true) (k10 : PySem.W.keepIn K (.ref f10) = true)
    (a11 : PySem.W.nsIn K mainGlobals "_law_common" = some (some (.ref f11))) (l11 : K.lookup f11 = some ⟨oc11, od11, .func (PySem.W.fnOf "_law_common" "_law_common" (L2.defArgs s11) (L2.defBody s11) (L2.defScope s11) .none kV11 dc11 pm11 an11 cd11 ct11), sl11⟩) (d11 : PySem.W.codeIn K cd11 "_law_common" = true) (k11 : PySem.W.keepIn K (.ref f11) = true)
    (a12 : PySem.W.nsIn K mainGlobals "_law_made" = some (some (.ref f12))) (l12 : K.lookup f12 = some ⟨oc12, od12, .func (PySem.W.fnOf "_law_made" "_law_made" (L2.defArgs s12) (L2.defBody s12) (L2.defScope s12) .none kV12 dc12 pm12 an12 cd12 ct12), sl12⟩) (d12 : PySem.W.codeIn K cd12 "_law_made" = true) (k12 : PySem.W.keepIn K (.ref f12) = true)
    (a13 : PySem.W.nsIn K mainGlobals "_law_wishes" = some (some (.ref f13))) (l13 : K.lookup f13 = some ⟨oc13, od13, .func (PySem.W.fnOf "_law_wishes" "_law_wishes" (L2.defArgs s13) (L2.defBody s13) (L2.defScope s13) .none kV13 dc13 pm13 an13 cd13 ct13), sl13⟩) (d13 : PySem.W.codeIn K cd13 "_law_wishes" = true) (k13 : PySem.W.keepIn K (.ref f13) = true)
    (a14 : PySem.W.nsIn K mainGlobals "_law_wish" = some (some (.ref f14))) (l14 : K.lookup f14 = some ⟨oc14, od14, .func (PySem.W.fnOf "_law_wish" "_law_wish" (L2.defArgs s14) (L2.defBody s14) (L2.defScope s14) .none kV14 dc14 pm14 an14 cd14 ct14), sl14⟩) (d14 : PySem.W.codeIn K cd14 "_law_wish" = true) (k14 : PySem.W.keepIn K (.ref f14) = true)
    (a15 : PySem.W.nsIn K mainGlobals "_law_same" = some (some (.ref f15))) (l15 : K.lookup f15 = some ⟨oc15, od15, .func (PySem.W.fnOf "_law_same" "_law_same" (L2.defArgs s15) (L2.defBody s15) (L2.defScope s15) .none kV15 dc15 pm15 an15 cd15 ct15), sl15⟩) (d15 : PySem.W.codeIn K cd15 "_law_same" = true) (k15 : PySem.W.keepIn K (.ref f15) = true)
    (a16 : PySem.W.nsIn K mainGlobals "_law_push_right" = some (some (.ref f16))) (l16 : K.lookup f16 = some ⟨oc16, od16, .func (PySem.W.fnOf "_law_push_right" "_law_push_right" (L2.defArgs s16) (L2.defBody s16) (L2.defScope s16) .none kV16 dc16 pm16 an16 cd16 ct16), sl16⟩) (d16 : PySem.W.codeIn K cd16 "_law_push_right" = true) (k16 : PySem.W.keepIn K (.ref f16) = true)
    (a17 : PySem.W.nsIn K mainGlobals "law" = some (some (.ref f17))) (l17 : K.lookup f17 = some ⟨oc17, od17, .func (PySem.W.fnOf "law" "law" (L2.defArgs s17) (L2.defBody s17) (L2.defScope s17) .none kV17 dc17 pm17 an17 cd17 ct17), sl17⟩) (d17 : PySem.W.codeIn K cd17 "law" = true) (k17 : PySem.W.keepIn K (.ref f17) = true)
    (z_abs : PySem.W.nsIn K mainGlobals "abs" = some none) (z_bool : PySem.W.nsIn K mainGlobals "bool" = some none) (z_int : PySem.W.nsIn K mainGlobals "int" = some none) (z_isinstance : PySem.W.nsIn K mainGlobals "isinstance" = some none) (z_len : PySem.W.nsIn K mainGlobals "len" = some none) (z_max : PySem.W.nsIn K mainGlobals "max" = some none) (z_min : PySem.W.nsIn K mainGlobals "min" = some none) (z_range : PySem.W.nsIn K mainGlobals "range" = some none) (z_repr : PySem.W.nsIn K mainGlobals "repr" = some none) (z_tuple : PySem.W.nsIn K mainGlobals "tuple" = some none)
    : ∃ fd : FuncData, (∀ (s : Shared) (v : Value), BindsTo s fd ⟨[v], []⟩ [("_law_script", v)]) ∧ ∀ base : Heap, K.In base → base.Ns mainGlobals mg → FnG l.prog w K mg base 18 fa fd ["_law_script"] (spOf K spLaw) := by
  have e := hfa.symm.trans (PySem.W.mg_of X Gn a17)
  cases e
  have F0 := L2.fun_mk (st := s0) l0 d0 k0
  have F1 := L2.fun_mk (st := s1) l1 d1 k1
  have F2 := L2.fun_mk (st := s2) l2 d2 k2
  have F3 := L2.fun_mk (st := s3) l3 d3 k3
  have F4 := L2.fun_mk (st := s4) l4 d4 k4
  have F5 := L2.fun_mk (st := s5) l5 d5 k5
  have F6 := L2.fun_mk (st := s6) l6 d6 k6
  have F7 := L2.fun_mk (st := s7) l7 d7 k7
  have F8 := L2.fun_mk (st := s8) l8 d8 k8
  have F9 := L2.fun_mk (st := s9) l9 d9 k9
  have F10 := L2.fun_mk (st := s10) l10 d10 k10
  have F11 := L2.fun_mk (st := s11) l11 d11 k11
  have F12 := L2.fun_mk (st := s12) l12 d12 k12
  have F13 := L2.fun_mk (st := s13) l13 d13 k13
  have F14 := L2.fun_mk (st := s14) l14 d14 k14
  have F15 := L2.fun_mk (st := s15) l15 d15 k15
  have F16 := L2.fun_mk (st := s16) l16 d16 k16
  have F17 := L2.fun_mk (st := s17) l17 d17 k17
  refine ⟨PySem.W.fnOf "law" "law" (L2.defArgs s17) (L2.defBody s17) (L2.defScope s17) .none kV17 dc17 pm17 an17 cd17 ct17, fun s v => .of_eq rfl, fun base _ _ => ?_⟩
  have t0 : Tab l.prog w K mg base 0 T0 G := Tab.none (fun j x h => by simp [gls] at h) (fun x hx => by
    simp only [bis, List.mem_cons, List.mem_nil_iff, or_false] at hx
    rcases hx with rfl | rfl | rfl | rfl | rfl | rfl | rfl | rfl | rfl | rfl
    · exact PySem.W.mg_none_of X Gn z_abs
    · exact PySem.W.mg_none_of X Gn z_bool
    · exact PySem.W.mg_none_of X Gn z_int
    · exact PySem.W.mg_none_of X Gn z_isinstance
    · exact PySem.W.mg_none_of X Gn z_len
    · exact PySem.W.mg_none_of X Gn z_max
    · exact PySem.W.mg_none_of X Gn z_min
    · exact PySem.W.mg_none_of X Gn z_range
    · exact PySem.W.mg_none_of X Gn z_repr
    · exact PySem.W.mg_none_of X Gn z_tuple)
  have g0 := fn_sound F0 sc0 t0 ok0 len0 body0
  have t1 : Tab l.prog w K mg base 1 T1 G := t0.add (i := i0) g0 (PySem.W.mg_of X Gn a0) k0 (kb_pos fun us hl => match us, hl with | [_, _], _ => rfl) (fun p hp => by cases hp)
  have g1 := fn_sound F1 sc1 t1 ok1 len1 body1
  have t2 : Tab l.prog w K mg base 2 T2 G := t1.add (i := i1) g1 (PySem.W.mg_of X Gn a1) k1 (kb_pos fun us hl => match us, hl with | [_, _], _ => rfl) (fun p hp => by cases hp)
  have g2 := fn_sound F2 sc2 t2 ok2 len2 body2
  have t3 : Tab l.prog w K mg base 3 T3 G := t2.add (i := i2) g2 (PySem.W.mg_of X Gn a2) k2 (kb_pos fun us hl => match us, hl with | [_, _, _, _], _ => rfl) (fun p hp => by cases hp)
  have g3 := fn_sound F3 sc3 t3 ok3 len3 body3
  have t4 : Tab l.prog w K mg base 4 T4 G := t3.add (i := i3) g3 (PySem.W.mg_of X Gn a3) k3 (kb_pos fun us hl => match us, hl with | [_, _, _, _], _ => rfl) (fun p hp => by cases hp)
  have g4 := fn_sound F4 sc4 t4 ok4 len4 body4
  have t5 : Tab l.prog w K mg base 5 T5 G := t4.add (i := i4) g4 (PySem.W.mg_of X Gn a4) k4 (kb_pos fun us hl => match us, hl with | [_, _, _, _], _ => rfl) (fun p hp => by cases hp)
  have g5 := fn_sound F5 sc5 t5 ok5 len5 body5
  have t6 : Tab l.prog w K mg base 6 T6 G := t5.add (i := i5) g5 (PySem.W.mg_of X Gn a5) k5 (kb_pos fun us hl => match us, hl with | [_, _, _, _], _ => rfl) (fun p hp => by cases hp)
  have g6 := fn_sound F6 sc6 t6 ok6 len6 body6
  have t7 : Tab l.prog w K mg base 7 T7 G := t6.add (i := i6) g6 (PySem.W.mg_of X Gn a6) k6 (kb_pos fun us hl => match us, hl with | [_, _], _ => rfl) (fun p hp => by
    simp only [i6, List.mem_cons, List.mem_nil_iff, or_false] at hp
    rcases hp with rfl
    · exact kb6_0)
  have g7 := fn_sound F7 sc7 t7 ok7 len7 body7
  have t8 : Tab l.prog w K mg base 8 T8 G := t7.add (i := i7) g7 (PySem.W.mg_of X Gn a7) k7 (kb_pos fun us hl => match us, hl with | [_, _], _ => rfl) (fun p hp => by cases hp)
  have g8 := fn_sound F8 sc8 t8 ok8 len8 body8
  have t9 : Tab l.prog w K mg base 9 T9 G := t8.add (i := i8) g8 (PySem.W.mg_of X Gn a8) k8 (kb_pos fun us hl => match us, hl with | [_, _], _ => rfl) (fun p hp => by cases hp)
  have g9 := fn_sound F9 sc9 t9 ok9 len9 body9
  have t10 : Tab l.prog w K mg base 10 T10 G := t9.add (i := i9) g9 (PySem.W.mg_of X Gn a9) k9 (kb_pos fun us hl => match us, hl with | [_, _], _ => rfl) (fun p hp => by cases hp)
  have g10 := fn_sound F10 sc10 t10 ok10 len10 body10
  have t11 : Tab l.prog w K mg base 11 T11 G := t10.add (i := i10) g10 (PySem.W.mg_of X Gn a10) k10 (kb_pos fun us hl => match us, hl with | [_], _ => rfl) (fun p hp => by cases hp)
  have g11 := fn_sound F11 sc11 t11 ok11 len11 body11
  have t12 : Tab l.prog w K mg base 12 T12 G := t11.add (i := i11) g11 (PySem.W.mg_of X Gn a11) k11 (kb_pos fun us hl => match us, hl with | [_, _], _ => rfl) (fun p hp => by cases hp)
  have g12 := fn_sound F12 sc12 t12 ok12 len12 body12
  have t13 : Tab l.prog w K mg base 13 T13 G := t12.add (i := i12) g12 (PySem.W.mg_of X Gn a12) k12 (kb_pos fun us hl => match us, hl with | [_, _], _ => rfl) (fun p hp => by cases hp)
  have g13 := fn_sound F13 sc13 t13 ok13 len13 body13
  have t14 : Tab l.prog w K mg base 14 T14 G := t13.add (i := i13) g13 (PySem.W.mg_of X Gn a13) k13 (kb_pos fun us hl => match us, hl with | [_, _], _ => rfl) (fun p hp => by cases hp)
  have g14 := fn_sound F14 sc14 t14 ok14 len14 body14
  have t15 : Tab l.prog w K mg base 15 T15 G := t14.add (i := i14) g14 (PySem.W.mg_of X Gn a14) k14 (kb_pos fun us hl => match us, hl with | [_, _], _ => rfl) (fun p hp => by cases hp)
  have g15 := fn_sound F15 sc15 t15 ok15 len15 body15
  have t16 : Tab l.prog w K mg base 16 T16 G := t15.add (i := i15) g15 (PySem.W.mg_of X Gn a15) k15 (kb_pos fun us hl => match us, hl with | [_, _, _], _ => rfl) (fun p hp => by cases hp)
  have g16 := fn_sound F16 sc16 t16 ok16 len16 body16
  have t17 : Tab l.prog w K mg base 17 T17 G := t16.add (i := i16) g16 (PySem.W.mg_of X Gn a16) k16 (kb_pos fun us hl => match us, hl with | [_, _, _, _], _ => rfl) (fun p hp => by cases hp)
  have g17 := fn_sound F17 sc17 t17 ok17 len17 body17
  exact g17
end Law_k36
open PySem PySem.W PyProof.Rows
set_option maxHeartbeats 0 in
theorem PySem.Challenge.cw_drivenwheels_k36_pushes_and_wishes_holds : PySem.Challenge.rw_drivenwheels_k36_pushes_and_wishes.Holds := by
  w_on; o_law; k_head; (case hw => w_witness2)
  k_fill
  refine DL.walk_law (l := PySem.Challenge.rw_drivenwheels_k36_pushes_and_wishes) (k := 18) (x := "_law_script") rfl rfl ⟨rfl, by decide, by decide⟩ (fun w h Y => PySem.W.kIn_of Y) ?F
  case F =>
    intro w mg fa h KX Gn hmg
    refine' Law_k36.all_mk KX Gn hmg ?a0 ?l0 ?d0 ?k0 ?a1 ?l1 ?d1 ?k1 ?a2 ?l2 ?d2 ?k2 ?a3 ?l3 ?d3 ?k3 ?a4 ?l4 ?d4 ?k4 ?a5 ?l5 ?d5 ?k5 ?a6 ?l6 ?d6 ?k6 ?a7 ?l7 ?d7 ?k7 ?a8 ?l8 ?d8 ?k8 ?a9 ?l9 ?d9 ?k9 ?a10 ?l10 ?d10 ?k10 ?a11 ?l11 ?d11 ?k11 ?a12 ?l12 ?d12 ?k12 ?a13 ?l13 ?d13 ?k13 ?a14 ?l14 ?d14 ?k14 ?a15 ?l15 ?d15 ?k15 ?a16 ?l16 ?d16 ?k16 ?a17 ?l17 ?d17 ?k17 ?z_abs ?z_bool ?z_int ?z_isinstance ?z_len ?z_max ?z_min ?z_range ?z_repr ?z_tuple
    (case a0 => k_is); (case l0 => k_is); (case d0 => k_is); (case k0 => k_is); (case a1 => k_is); (case l1 => k_is); (case d1 => k_is); (case k1 => k_is); (case a2 => k_is); (case l2 => k_is); (case d2 => k_is); (case k2 => k_is); (case a3 => k_is); (case l3 => k_is); (case d3 => k_is); (case k3 => k_is); (case a4 => k_is); (case l4 => k_is); (case d4 => k_is); (case k4 => k_is); (case a5 => k_is); (case l5 => k_is); (case d5 => k_is); (case k5 => k_is); (case a6 => k_is); (case l6 => k_is); (case d6 => k_is); (case k6 => k_is); (case a7 => k_is); (case l7 => k_is); (case d7 => k_is); (case k7 => k_is); (case a8 => k_is); (case l8 => k_is); (case d8 => k_is); (case k8 => k_is); (case a9 => k_is); (case l9 => k_is); (case d9 => k_is); (case k9 => k_is); (case a10 => k_is); (case l10 => k_is); (case d10 => k_is); (case k10 => k_is); (case a11 => k_is); (case l11 => k_is); (case d11 => k_is); (case k11 => k_is); (case a12 => k_is); (case l12 => k_is); (case d12 => k_is); (case k12 => k_is); (case a13 => k_is); (case l13 => k_is); (case d13 => k_is); (case k13 => k_is); (case a14 => k_is); (case l14 => k_is); (case d14 => k_is); (case k14 => k_is); (case a15 => k_is); (case l15 => k_is); (case d15 => k_is); (case k15 => k_is); (case a16 => k_is); (case l16 => k_is); (case d16 => k_is); (case k16 => k_is); (case a17 => k_is); (case l17 => k_is); (case d17 => k_is); (case k17 => k_is); (case z_abs => k_is); (case z_bool => k_is); (case z_int => k_is); (case z_isinstance => k_is); (case z_len => k_is); (case z_max => k_is); (case z_min => k_is); (case z_range => k_is); (case z_repr => k_is); (case z_tuple => k_is)

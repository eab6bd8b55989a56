import PyProof.Rows.All
import Wide.All
import OpenK.AllK
import Wide.FinOn
import HandS.Iter
import HandS.Dict
import HandS.Call
import KE.KDictCopyH
import KE.KDictDisplayH
import HandS.DictComp
import HandS.SetBool
import HandS.Strs
import HandS.SetFor
import KE.KDictPairs
import KE.KeyNested
import HandS.TupSets
import KE.SortData
import HandS.SortRule
import HandS.SortInts
import HandS.Deep
import HandS.ForMost
import HandS.Wide
import HandS.TryOnly
import HandS.WideBits
import HandS.Style
import HandS.IsInst
import HandS.Zip
import HandS.Rev
import HandS.RevRange
import HandS.Sort
import HandS.SortKw
import HandS.Conv
import HandS.Flow
import HandS.TupAny
import HandS.TupMul
import HandS.Flt
import KE.DataMinMax
import KE.DataCmp
import PyProof.DictRoadsH
import PyProof.Rows.TupTab
import HandS.Lambda
import HandS.DictTup
import KE.KRevSl
import PyProof.NeKinds
import KE.KEqDict
import KE.SortKeyHeap
import HandS.New
import HandS.RaiseMore
import HandS.ExcInit
import HandS.ExcField
import PyProof.InstNe
import PyProof.InstEq
import HandS.OwnIter
import HandS.Zip0
import KE.KTupSum
import KE.GoesMore
import KE.GoesZip
import KE.KDictZip
import HandS.RevTup
import HandS.MapObj
import KE.KExcIs
import HandS.ExcValue
import KE.KNestM
import HandS.ExcSuper
import PySem.Challenge.RW_drivenwheels_k28_the_told_way
set_option Elab.async false
set_option linter.all false
set_option maxRecDepth 100000
namespace DL
open PySem PySem.Spec PyProof.Rows L2
noncomputable abbrev K3 := Int × Bool × Int
noncomputable def bI (b : Bool) : Int := if b = true then 1 else 0
theorem bI_inj : ∀ {a b : Bool}, bI a = bI b → a = b := by decide
noncomputable def lv3 (k : K3) : List Leaf := [.num k.1, .num (bI k.2.1), .num k.2.2]
theorem lv3_inj {a b : K3} (h : lv3 a = lv3 b) : a = b := by
  obtain ⟨a1, a2, a3⟩ := a
  obtain ⟨b1, b2, b3⟩ := b
  simp only [lv3, List.cons.injEq, Leaf.num.injEq, and_true] at h
  obtain ⟨rfl, h2, rfl⟩ := h
  rw [bI_inj h2]
noncomputable def h3 (k : K3) : Int := reduceHash (Builtin.Tuple.tupleHashOf [hashInt k.1, hashInt (bI k.2.1), hashInt k.2.2])
noncomputable def v3 (k : K3) : List V := [.int k.1, .bl k.2.1, .int k.2.2]
noncomputable def ent3 (x : K3 × Addr) : DictEntry := ⟨h3 x.1, .ref x.2, .bool true⟩
noncomputable def full3 (xs : List (K3 × Addr)) : List (List Leaf × Addr × Value) := xs.map fun x => (lv3 x.1, x.2, .bool true)
structure Is3 (a : Addr) (xs : List (K3 × Addr)) (h : Heap) : Prop where
  sm : (a == sysModules) = false
  len : xs.length ≤ sizeLine
  nd : (xs.map (·.1)).Nodup
  ob : ∃ o es ep, h.get? a = some o ∧ o.ExactDict ∧ o.data = .dict es ep ∧ es.toList = xs.map ent3
/-- what stands at a: the dict of these states, each with the address of its key -/
noncomputable def StD (a : Addr) (xs : List (K3 × Addr)) : HO := .ext fun h => Is3 a xs h
noncomputable def Ks3 (K : PySem.W.Frag) (H : Hp) (xs : List (K3 × Addr)) : Prop := ∀ x ∈ xs, SqT K H x.2 (v3 x.1)
/-- a state is put in -/
noncomputable def put3 (xs : List (K3 × Addr)) (k : K3) (b : Addr) : List (K3 × Addr) := if k ∈ xs.map (·.1) then xs else xs ++ [(k, b)]
theorem full3_keys (xs : List (K3 × Addr)) : (full3 xs).map (·.1) = (xs.map (·.1)).map lv3 := by simp [full3]
theorem full3_len (xs : List (K3 × Addr)) : (full3 xs).length = xs.length := by simp [full3]
theorem full3_ents (P : Program) (w : World) (xs : List (K3 × Addr)) : (full3 xs).map (entryOfKey (tupleKind (leafKind P w))) = xs.map ent3 := by
  rw [full3, List.map_map]
  rfl
theorem full3_at (xs : List (K3 × Addr)) (k : K3) : (atKey (full3 xs) (lv3 k)).isSome = decide (k ∈ xs.map (·.1)) := by
  induction xs with
  | nil => rfl
  | cons x xs ih =>
    unfold atKey full3 at ih ⊢
    rw [List.map_cons, List.find?_cons]
    by_cases e : x.1 = k
    · subst e
      simp
    · have e' : ¬ lv3 x.1 = lv3 k := fun z => e (lv3_inj z)
      simp only [decide_eq_false e', Bool.false_eq_true]
      rw [ih]
      simp only [List.map_cons, List.mem_cons, decide_eq_decide]
      constructor
      · exact .inr
      · rintro (z | z)
        · exact absurd z.symm e
        · exact z
theorem full3_put (xs : List (K3 × Addr)) (k : K3) (b : Addr) : storedH (full3 xs) (lv3 k) b (.bool true) = full3 (put3 xs k b) := by
  unfold storedH put3
  rw [full3_at]
  by_cases h : k ∈ xs.map (·.1)
  · rw [decide_eq_true h, if_pos h]
    simp only [if_true]
    unfold full3
    rw [List.map_map]
    refine List.map_congr_left fun x _ => ?_
    show putAt _ _ _ = _
    unfold putAt
    split <;> rfl
  · rw [decide_eq_false h, if_neg h]
    simp only [Bool.false_eq_true, if_false]
    simp [full3]
theorem put3_nd {xs : List (K3 × Addr)} (h : (xs.map (·.1)).Nodup) (k : K3) (b : Addr) : ((put3 xs k b).map (·.1)).Nodup := by
  unfold put3
  split
  · exact h
  · rename_i hn
    rw [List.map_append, List.nodup_append]
    refine ⟨h, by simp, fun a ha c hc => ?_⟩
    simp at hc
    subst hc
    exact fun z => hn (z ▸ ha)
theorem put3_len (xs : List (K3 × Addr)) (k : K3) (b : Addr) : (put3 xs k b).length ≤ xs.length + 1 := by
  unfold put3
  split
  · exact Nat.le_succ _
  · simp
theorem Is3.at {a : Addr} {xs : List (K3 × Addr)} {h h' : Heap} (x : Is3 a xs h) (k : ∀ o, h.get? a = some o → h'.get? a = some o) : Is3 a xs h' :=
  ⟨x.sm, x.len, x.nd, let ⟨o, es, ep, e, r⟩ := x.ob; ⟨o, es, ep, k o e, r⟩⟩
theorem Is3.ok {P : Program} {w : World} {H : Hp} {a : Addr} {xs : List (K3 × Addr)} {h : Heap} (x : Is3 a xs h) : ObjOk P w H h a (StD a xs) :=
  ⟨x, let ⟨o, _, _, e, _⟩ := x.ob; ⟨o, e⟩, fun _ _ y k => y.at k⟩
section
variable {X : Cx} {pins : List (Addr × Obj)} {σ : L2.St} {H : Hp} {s : Shared} {a b : Addr} {xs : List (K3 × Addr)} {k : K3}
theorem is3_rd (I : Inv X pins σ H s) (e : Rd H a (StD a xs)) : Is3 a xs s.heap := (show ObjOk X.prog X.w H s.heap a (StD a xs) from e.ok I.hok).1
theorem key3 (I : Inv X pins σ H s) (h : SqT X.K H b (v3 k)) : (tupleKind (leafKind X.prog X.w)).is s.heap (lv3 k) b := by
  obtain ⟨its, rv, ⟨o, ho, hc, n, hd⟩, _⟩ := I.tuple h
  refine ⟨o, its.toArray, n, ho, hc, hd, ?_⟩
  cases rv with
  | cons r1 rv =>
    cases rv with
    | cons r2 rv =>
      cases rv with
      | cons r3 rv =>
        cases rv
        obtain ⟨t1, rfl⟩ := r1
        cases r2
        obtain ⟨t3, rfl⟩ := r3
        refine .cons (decide_eq_true rfl) (.cons ?_ (.cons (decide_eq_true rfl) .nil))
        exact decide_eq_true rfl
theorem dict3 (I : Inv X pins σ H s) (x : Is3 a xs s.heap) (q : Ks3 X.K H xs) : s.heap.DictOfH (tupleKind (leafKind X.prog X.w)) a (full3 xs) := by
  obtain ⟨o, es, ep, h1, h2, h3, h4⟩ := x.ob
  refine ⟨o, es, ep, h1, h2, h3, by rw [full3_ents]; exact h4, fun y hy => ?_, ?_⟩
  · obtain ⟨z, hz, rfl⟩ := List.mem_map.mp hy
    exact key3 I (q z hz)
  · rw [full3_keys]
    exact List.Pairwise.map _ (fun u v (huv : u ≠ v) (e : lv3 u = lv3 v) => huv (lv3_inj e)) x.nd
theorem is3_of {P : Program} {w : World} {h : Heap} (d : h.DictOfH (tupleKind (leafKind P w)) a (full3 xs)) (sm : (a == sysModules) = false) (l : xs.length ≤ sizeLine) (nd : (xs.map (·.1)).Nodup) : Is3 a xs h := by
  obtain ⟨o, es, ep, h1, h2, h3, h4, _⟩ := d
  exact ⟨sm, l, nd, o, es, ep, h1, h2, h3, by rw [← full3_ents P w]; exact h4⟩
theorem write3 {h' : Heap} {t' : Nat} {ys zs : List (K3 × Addr)} (I : Inv X pins σ H s) (e : H a = some (StD a zs)) (hs : Heap.SameBut a s.heap h') (x : Is3 a ys h') : Inv X pins σ (upd H a (StD a ys)) { s with heap := h', toks := t' } :=
  d_write (ob := StD a ys) I (by rw [e]; exact True.intro) hs (let ⟨o, _, _, q, _⟩ := x.ob; ⟨o, q⟩) x.ok
/-- d[k] = True -/
noncomputable def rSet3 (K : PySem.W.Frag) : V → V → V → Hp → (Hp → Prop) → Prop := fun o i v H Q => ∃ a b xs k, o = .ref a ∧ i = .ref b ∧ v = .bl true ∧ H a = some (StD a xs) ∧ Ks3 K H xs ∧ SqT K H b (v3 k) ∧ xs.length < sizeLine ∧ Q (upd H a (StD a (put3 xs k b)))
theorem put_at3 {A : Around} {E : Value → Shared → Prop} {Q : Unit → Shared → Prop} (hu : A.units + 1 < cLine) (I : Inv X pins σ H s) (e : H a = some (StD a xs)) (q : Ks3 X.K H xs) (hb : SqT X.K H b (v3 k)) (hl : xs.length < sizeLine)
    (h : ∀ s', Inv X pins σ (upd H a (StD a (put3 xs k b))) s' → Q () s') : wpAny (model X.prog X.w) A (setItem (.ref a) (.ref b) (.bool true)) Q E s := by
  have x := is3_rd I (.inl e)
  have hz : (full3 xs).length ≤ sizeLine := by rw [full3_len]; exact x.len
  refine wpAny_setItem_heap (hsz := hz) (tupleKind_room_in1 hu) (key3 I hb) (dict3 I x q) fun h' dd' hs => h _ ?_
  rw [full3_put] at dd'
  exact write3 I e hs (is3_of dd' x.sm (Nat.le_trans (put3_len ..) hl) (put3_nd x.nd k b))
theorem set_3 (hu : X.A.units + 1 < cLine) : PSet X (rSet3 X.K) := by
  intro pins s σ H o i v ov iv u Q I ro ri rv h
  obtain ⟨a, b, xs, k, rfl, rfl, rfl, ha, hq, hb, hl, q⟩ := h
  cases ro
  cases ri
  cases rv
  exact put_at3 hu I ha hq hb hl fun s' I' => ⟨_, I', q⟩
theorem is3_new (h : Heap) (hb : sysModules < h.objs.size) : Is3 h.objs.size [] (h.push { cls := .type "dict", data := .dict #[] }) :=
  ⟨beq_eq_false_iff_ne.mpr (Ne.symm (Nat.ne_of_lt hb)), Nat.zero_le _, List.nodup_nil, _, #[], 0, Heap.get?_push_size _ rfl, ⟨rfl, rfl, rfl⟩, rfl, rfl⟩
end
end DL
set_option maxHeartbeats 2000000
namespace DL
open PySem PySem.Spec PyProof.Rows L2 PpSet
end DL
set_option maxHeartbeats 2000000
namespace DL
open PySem PySem.Spec PyProof.Rows L2 PpSet
end DL
set_option maxHeartbeats 2000000
namespace DL
open PySem PySem.Spec PyProof.Rows L2
section
variable {X : Cx}
theorem put_dc3 {pins : List (Addr × Obj)} {σ : L2.St} {H : Hp} {s : Shared} {a b : Addr} {xs : List (K3 × Addr)} {k : K3} {E : Value → Shared → Prop} {Q : Unit → Shared → Prop} (hu : X.A.units < cLine) (I : Inv X pins σ H s) (e : H a = some (StD a xs)) (q : Ks3 X.K H xs) (hb : SqT X.K H b (v3 k)) (hl : xs.length < sizeLine)
    (h : ∀ s', Inv X pins σ (upd H a (StD a (put3 xs k b))) s' → Q () s') : wpAny (model X.prog X.w) X.A (dictSet a (.ref b) (.bool true)) Q E s := by
  have x := is3_rd I (.inl e)
  refine wpAny_dictSet_heap (knd := tupleKind (leafKind X.prog X.w)) (hsz := by rw [full3_len]; exact x.len) hu (key3 I hb) (dict3 I x q) fun h' dd' hs => h _ ?_
  rw [full3_put] at dd'
  exact write3 I e hs (is3_of dd' x.sm (Nat.le_trans (put3_len ..) hl) (put3_nd x.nd k b))
/-- {k: True for target in iter if ..}, k a state: D the new dict -/
noncomputable def tDcS (K : PySem.W.Frag) (wi : TI) (g : TG) (tt : TT) (tk tv : TE) (vs : List Nat) : TE := fun σ H Q => wi σ H fun J H1 => ∀ D, H1 D = none → ∃ W : Nat → Nat → Hp → Prop, (∃ m, W 0 m (upd H1 D (StD D []))) ∧ ∀ i m H, W i m H →
  (J.stop i H ∧ Q (.ref D) H) ∨ (J.go i H ∧ ∃ Nx : Hp → Prop, (∀ H', Nx H' → ∃ m', m' < m ∧ W (i + 1) m' H') ∧ ∀ x H', J.yld i H x H' → g x (wipe σ vs) H' fun σ2 H2 => wipe σ2 vs = wipe σ vs ∧ tt σ2 H2 fun b H3 =>
    if b = true then tk σ2 H3 fun y H4 => tv σ2 H4 fun z H5 => ∃ xs b k, y = .ref b ∧ z = .bl true ∧ H5 D = some (StD D xs) ∧ Ks3 K H5 xs ∧ SqT K H5 b (v3 k) ∧ xs.length < sizeLine ∧ Nx (upd H5 D (StD D (put3 xs k b))) else Nx H3)
theorem dcS_core {pns : List (Addr × Obj)} {s : Shared} {σ : L2.St} {H : Hp} {Q : VK} {ekx evx tge itr : Expr} {iff : List Expr} {sco : Scope} {ow : List (PySem.Str × Nat)} {pos pos' : Pos} {wi : TI} {g : TG} {tt : TT} {tk tv : TE} {usf : Option (Value → Sem Unit)} {Qz : Value → Shared → Prop}
    (hca : X.calm = true) (hroom : X.A.units < cLine) (hN : X.N.Nodup) (I : Inv X pns σ H s) (hit : PI X tge itr wi) (bo : BlkOk X.N X.env.scope sco ow)
    (htg : ∀ (s : Shared) (H : Hp) (C : Addr) (cl : List (PySem.Str × Addr)) (ft : List Addr), PG (X.blk s H sco (compEnvC sco cl C X.env) ft) tge g) (hts : ∀ (s : Shared) (H : Hp) (C : Addr) (cl : List (PySem.Str × Addr)) (ft : List Addr), PTs (X.blk s H sco (compEnvC sco cl C X.env) ft) iff tt)
    (hke : ∀ (s : Shared) (H : Hp) (C : Addr) (cl : List (PySem.Str × Addr)) (ft : List Addr), PE (X.blk s H sco (compEnvC sco cl C X.env) ft) ekx tk)
    (hem : ∀ (s : Shared) (H : Hp) (C : Addr) (cl : List (PySem.Str × Addr)) (ft : List Addr), PE (X.blk s H sco (compEnvC sco cl C X.env) ft) evx tv) (hfo : ∀ x, foldedSetIterable itr X.env x = pure x)
    (h : tDcS X.K wi g tt tk tv (ow.map (·.2)) σ H Q)
    (hEnd : ∀ D C s' m H', Inv X pns σ H' s' → Q (.ref D) H' → s'.heap.Ns C m → FpOk X pns H' C → compPost (model X.prog X.w) X.A X.xe usf Qz (.ref D) C (.ok .next) s') :
    wpAny (model X.prog X.w) X.A (comprehension (.DictComp ekx evx [⟨tge, itr, iff, 0⟩] sco pos) sco X.env pos' newDict false (eval itr X.env) usf) Qz X.xe s := by
  have hfree : ∀ y ∈ sco.names, y.2 = .free → ∃ c, X.env.cells.lookup y.1 = some c := fun y hy e => by
    rcases bo.free y hy e with k | k
    · exact I.ok.has _ (.inl k)
    · exact I.ok.has _ (.inr k)
  refine wpAny_comprehension_free (use := usf) rfl hfo (closure_ok hfree) bo.kind (fun y hy e => by rw [bo.uniq y hy, e])
    (thn (hit.run pns s σ H _ I h) fun xv z1 hx => thn hx fun itv z2 h2 => ?_)
  obtain ⟨it, ft, tn, J, G2, e, J2, Tn, stn2, g2, q⟩ := h2
  subst e
  refine wpAny_newObj_type (newEnv_comp ?_)
  generalize hDD : z2.heap.objs.size = D
  have hDn : G2 D = none := J2.hok.fresh (Nat.le_of_eq hDD)
  obtain ⟨W, ⟨m0, w0⟩, trn⟩ := q D hDn
  -- the new list
  generalize hs3 : ({ z2 with heap := z2.heap.push { cls := .type "dict", data := .dict #[] } } : Shared) = z3
  have J3 : Inv X pns σ (upd G2 D (StD D [])) z3 := by
    rw [← hs3]
    refine J2.laid (t' := z2.toks) (fun b o e => Heap.get?_push_of_some _ e) (Nat.le_of_eq hDD) ?_
    rw [← hDD]
    exact (is3_new z2.heap J2.big).ok
  have h3 : z3.heap = z2.heap.push { cls := .type "dict", data := .dict #[] } := by rw [← hs3]
  have szs : ∀ b ∈ ft, b < z2.heap.objs.size := fun b hb => by
    obtain ⟨o, e, _⟩ := Tn.obj _ _ stn2 b hb
    exact Heap.lt_size e
  have g3 : ∀ b ∈ ft, FpOk X pns (upd G2 D (StD D [])) b ∧ b < z3.heap.objs.size := fun b hb => by
    have hle := szs b hb
    refine ⟨⟨?_, (g2 b hb).2⟩, by rw [h3, Heap.size_push]; exact Nat.lt_succ_of_lt hle⟩
    rw [upd_ne (by rw [← hDD]; exact Nat.ne_of_lt hle)]
    exact (g2 b hb).1
  have stn3 : tn 0 z3.heap := Tn.keep _ _ _ stn2 fun b _ o e => by rw [h3]; exact Heap.get?_push_of_some _ e
  have J4 := block_start J3 bo hN g3
  have ppg := htg z3 (upd G2 D (StD D [])) z3.heap.objs.size (cellsFrom (z3.heap.objs.size + 1) sco.names (cloFrom X.env.cells sco.names [])) ft
  have ppt := hts z3 (upd G2 D (StD D [])) z3.heap.objs.size (cellsFrom (z3.heap.objs.size + 1) sco.names (cloFrom X.env.cells sco.names [])) ft
  have ppk := hke z3 (upd G2 D (StD D [])) z3.heap.objs.size (cellsFrom (z3.heap.objs.size + 1) sco.names (cloFrom X.env.cells sco.names [])) ft
  have ppe := hem z3 (upd G2 D (StD D [])) z3.heap.objs.size (cellsFrom (z3.heap.objs.size + 1) sco.names (cloFrom X.env.cells sco.names [])) ft
  show codeAny _ _ (.compStart (.DictComp ekx evx [⟨tge, itr, iff, 0⟩] sco pos) 0 (.ref it) (.ref D) (compEnvC sco (cellsFrom (z3.heap.objs.size + 1) sco.names (cloFrom X.env.cells sco.names [])) z3.heap.objs.size X.env)) (compPost (model X.prog X.w) X.A X.xe usf Qz (.ref D) z3.heap.objs.size) { z3 with heap := pushCells (z3.heap.push { cls := .type "dict", data := .dict #[] }) sco.names }
  have nft : ∀ b ∈ ft, (upd G2 D (StD D [])) b = none := fun b hb => (g3 b hb).1.1
  generalize hce : compEnvC sco (cellsFrom (z3.heap.objs.size + 1) sco.names (cloFrom X.env.cells sco.names [])) z3.heap.objs.size X.env = cen at J4 ppg ppt ppk ppe ⊢
  have cLo : cen.locals = z3.heap.objs.size := by subst hce; rfl
  generalize hH3 : upd G2 D (StD D []) = G3 at J3 J4 ppg ppt ppk ppe w0 nft g3
  generalize hs4 : ({ z3 with heap := pushCells (z3.heap.push { cls := .type "dict", data := .dict #[] }) sco.names } : Shared) = z4 at J4 ⊢
  have stn4 : tn 0 z4.heap := Tn.keep _ _ _ stn3 fun b _ o e => by rw [← hs4]; exact pushCells_keeps _ _ _ _ (Heap.get?_push_of_some _ e)
  have stt : ∀ {σ' : L2.St} {H' : Hp} {s' : Shared}, Inv (X.blk z3 G3 sco cen ft) [] σ' H' s' → (∀ b ∈ ft, H' b = none) → ∀ b ∈ ft, FpOk (X.blk z3 G3 sco cen ft) [] H' b := fun {σ' H' s'} I' hn b hb =>
    ⟨hn b hb, (I'.ok.exf b hb).1, I'.ok.exfs b hb, .inl hb, fun x c e => (I'.ok.exf b hb).2 x c e, fun p hp => absurd (show p ∈ ([] : List (Addr × Obj)) ++ [] from hp) (by simp)⟩
  have lop : codeAny (model X.prog X.w) X.A (.compLoop (.DictComp ekx evx [⟨tge, itr, iff, 0⟩] sco pos) 0 (.ref it) (.ref D) cen) (compPost (model X.prog X.w) X.A X.xe usf Qz (.ref D) z3.heap.objs.size) z4 := by
    refine compLoop_anyD (fun n s' => ∃ i H', Inv (X.blk z3 G3 sco cen ft) [] (wipe σ (ow.map (·.2))) H' s' ∧ tn i s'.heap ∧ (∀ b ∈ ft, H' b = none) ∧ W i n H') ?_ m0 ⟨0, G3, J4, stn4, nft, w0⟩
    rintro n z5 ⟨i, G5, J5, stn5, n5, w5⟩
    rcases trn i n G5 w5 with ⟨stop, qq⟩ | ⟨go, Nx, hNx, step⟩
    · have td := Tn.done (X.blk z3 G3 sco cen ft) rfl rfl rfl hca i [] z5 _ G5 (fun _ _ => False) J5 (stt J5 n5) stn5 stop
      refine thnF td fun r z6 ⟨hr, J6⟩ => ?_
      subst hr
      -- back in the def's context
      have J7 : Inv X pns σ G5 z6 := J3.call' (ch := ft) J6.os J6.base J6.hok J6.bare fun b hb => ⟨(g3 b hb).1.2.2.2.1, (g3 b hb).1.2.1, (g3 b hb).1.2.2.2.2.1, (g3 b hb).1.2.2.2.2.2⟩
      have nC : G5 z3.heap.objs.size = none := by
        have z : G5 cen.locals = none := J6.free
        rw [cLo] at z
        exact z
      obtain ⟨m, hn, _⟩ := J6.loc
      have hn : z6.heap.Ns cen.locals m := hn
      rw [cLo] at hn
      exact hEnd D z3.heap.objs.size z6 m G5 J7 qq hn (J3.fpOk (Nat.le_refl _) nC)
    · have ti := Tn.item (X.blk z3 G3 sco cen ft) rfl rfl rfl hca i [] z5 _ G5 (fun _ _ => False) J5 (stt J5 n5) stn5 go
      refine thnF ti fun r z6 ⟨u, hr, h6⟩ => ?_
      subst hr
      refine thnF h6 fun _ z7 ⟨x, G7, J7, r7, y7, stn7, n7⟩ => ?_
      have J7' := J7.pinned (stt J7 n7) (Tn.obj _ _ stn7)
      refine thnF (ppg.run _ z7 _ G7 x u _ J7' r7 (step x G7 y7)) fun _ z8 ⟨σ8, G8, J8, hw8, q8⟩ => ?_
      refine thnF (ppt.run _ z8 σ8 G8 _ J8 q8) fun b z9 ⟨G9, J9, q9⟩ => ?_
      -- the trn's end
      have fin : ∀ {s' : Shared} {H' : Hp}, Inv (X.blk z3 G3 sco cen ft) ([] ++ pinsAt ft z7.heap) σ8 H' s' → Nx H' → ∃ m, m < n ∧ ∃ i H', Inv (X.blk z3 G3 sco cen ft) [] (wipe σ (ow.map (·.2))) H' s' ∧ tn i s'.heap ∧ (∀ b ∈ ft, H' b = none) ∧ W i m H' := fun {s' H'} I' nx => by
        obtain ⟨m', hm, w'⟩ := hNx H' nx
        have pin' : ∀ b ∈ ft, ∀ o, z7.heap.get? b = some o → s'.heap.get? b = some o ∧ H' b = none := fun b hb o e =>
          let z := I'.pin (b, o) (List.mem_append_right _ (List.mem_append_right _ (mem_pinsAt hb e)))
          ⟨z.1, z.2.1⟩
        have hl : (wipe σ (ow.map (·.2))).length = σ8.length := by rw [← hw8, wipe_length]
        refine ⟨m', hm, i + 1, H', (I'.unpinned (pins := [])).weak hl (fun j v e => ?_), Tn.keep _ _ _ stn7 fun b hb o e => (pin' b hb o e).1, fun b hb => ?_, w'⟩
        · rw [← hw8] at e
          exact (wipe_some e).1
        · obtain ⟨o, e, _⟩ := Tn.obj _ _ stn7 b hb
          exact (pin' b hb o e).2
      cases b with
      | false =>
        simp only [Bool.false_eq_true, if_false] at q9 ⊢
        exact fin J9 q9
      | true =>
        simp only [if_true] at q9 ⊢
        refine thnF (ppk.run _ z9 σ8 G9 _ J9 q9) fun z z10 ⟨yk, G10, J10, r10, q10⟩ => ?_
        refine thnF (ppe.run _ z10 σ8 G10 _ J10 q10) fun z2 z11 ⟨yv, G11, J11, r11, kv3, b3, kk, ek, ez, hD11, hq11, hk11, hz11, nx⟩ => ?_
        subst ek ez
        cases r11
        cases r10
        exact put_dc3 (X := X.blk z3 G3 sco cen ft) hroom J11 hD11 hq11 hk11 hz11 fun z12 J12 => fin J12 nx
  exact codeAny_compStart_dict lop (Tn.self X.A 0 _ _ _ stn4 lop)
/-- as a value -/
theorem pe_dcS {ekx evx tge itr : Expr} {iff : List Expr} {sco : Scope} {ow : List (PySem.Str × Nat)} {pos : Pos} {wi : TI} {g : TG} {tt : TT} {tk tv : TE} (hca : X.calm = true) (hroom : X.A.units < cLine) (hN : X.N.Nodup) (hit : PI X tge itr wi) (bo : BlkOk X.N X.env.scope sco ow)
    (htg : ∀ (s : Shared) (H : Hp) (C : Addr) (cl : List (PySem.Str × Addr)) (ft : List Addr), PG (X.blk s H sco (compEnvC sco cl C X.env) ft) tge g) (hts : ∀ (s : Shared) (H : Hp) (C : Addr) (cl : List (PySem.Str × Addr)) (ft : List Addr), PTs (X.blk s H sco (compEnvC sco cl C X.env) ft) iff tt)
    (hke : ∀ (s : Shared) (H : Hp) (C : Addr) (cl : List (PySem.Str × Addr)) (ft : List Addr), PE (X.blk s H sco (compEnvC sco cl C X.env) ft) ekx tk)
    (hem : ∀ (s : Shared) (H : Hp) (C : Addr) (cl : List (PySem.Str × Addr)) (ft : List Addr), PE (X.blk s H sco (compEnvC sco cl C X.env) ft) evx tv) (hfo : ∀ x, foldedSetIterable itr X.env x = pure x := by intro _; rfl) :
    PE X (.DictComp ekx evx [⟨tge, itr, iff, 0⟩] sco pos) (tDcS X.K wi g tt tk tv (ow.map (·.2))) := by
  refine ⟨fun pns s σ H Q I h => ?_⟩
  rw [arm_eval_DictComp]
  refine dcS_core hca hroom hN I hit bo htg hts hke hem hfo h fun D C s' m H' I' q hn f => ⟨m, hn, fun h'' sb => ?_⟩
  obtain ⟨f0, g1, g2, g3, g4, g5⟩ := f
  exact ⟨.ref D, H', I'.turned (t' := s'.toks) (fun b o hb e => (sb.2 b hb).trans e) f0 g1 g3 g4 g5, rfl, q⟩
end
end DL
set_option maxHeartbeats 2000000
namespace DL
open PySem PySem.Spec PyProof.Rows L2 PpSet
end DL
namespace DL
open PySem PySem.Spec PyProof.Rows L2
noncomputable abbrev Tl := List (Int × Int)
noncomputable def hT (t : Tl) : Int := reduceHash (Builtin.Tuple.tupleHashOf (t.map fun p => reduceHash (Builtin.Tuple.tupleHashOf [hashInt p.1, hashInt p.2])))
noncomputable def entT (x : Tl × Addr) : DictEntry := ⟨hT x.1, .ref x.2, .bool true⟩
structure IsT (a : Addr) (xs : List (Tl × Addr)) (h : Heap) : Prop where
  sm : (a == sysModules) = false
  len : xs.length ≤ sizeLine
  nd : (xs.map (·.1)).Nodup
  ob : ∃ o es ep, h.get? a = some o ∧ o.ExactDict ∧ o.data = .dict es ep ∧ es.toList = xs.map entT
/-- what stands at a: the dict of these tales, each with the address of its key -/
noncomputable def TlD (a : Addr) (xs : List (Tl × Addr)) : HO := .ext fun h => IsT a xs h
/-- at b a tale stands -/
noncomputable def TlV (K : PySem.W.Frag) (H : Hp) (b : Addr) (t : Tl) : Prop := ∃ qs : List Addr, SqT K H b (qs.map V.ref) ∧ Paired (fun q (p : Int × Int) => SqT K H q [V.int p.1, V.int p.2]) qs t
noncomputable def KsT (K : PySem.W.Frag) (H : Hp) (xs : List (Tl × Addr)) : Prop := ∀ x ∈ xs, TlV K H x.2 x.1
theorem IsT.at {a : Addr} {xs : List (Tl × Addr)} {h h' : Heap} (x : IsT a xs h) (k : ∀ o, h.get? a = some o → h'.get? a = some o) : IsT a xs h' :=
  ⟨x.sm, x.len, x.nd, let ⟨o, es, ep, e, r⟩ := x.ob; ⟨o, es, ep, k o e, r⟩⟩
theorem IsT.ok {P : Program} {w : World} {H : Hp} {a : Addr} {xs : List (Tl × Addr)} {h : Heap} (x : IsT a xs h) : ObjOk P w H h a (TlD a xs) :=
  ⟨x, let ⟨o, _, _, e, _⟩ := x.ob; ⟨o, e⟩, fun _ _ y k => y.at k⟩
end DL
set_option maxHeartbeats 4000000
namespace DL
open PySem PySem.Spec PyProof.Rows L2
/-- from each slot the leaps come to each -/
noncomputable def Full (m : Nat) : Prop := ∀ i j, i ≤ m → j ≤ m → ∃ k, k ≤ m ∧ lcgI m i k = j
theorem full_of {m : Nat} (h : MaskOk m) : Full m := fun _ _ hi hj => lcgI_all h hi hj
noncomputable def orb (m : Nat) : Nat → Nat → List Nat
  | 0, _ => []
  | n + 1, x => x :: orb m n ((x * 5 + 1) % (m + 1))
theorem lcg_shift (m : Nat) : ∀ k x, lcgI m ((x * 5 + 1) % (m + 1)) k = lcgI m x (k + 1)
  | 0, _ => rfl
  | k + 1, x => by
    have e := lcg_shift m k x
    simp only [lcgI] at e ⊢
    rw [e]
theorem orb_mem (m : Nat) : ∀ n x y, y ∈ orb m n x → ∃ k, k < n ∧ lcgI m x k = y
  | 0, x, y, h => nomatch h
  | n + 1, x, y, h => by
    rcases List.mem_cons.mp h with e | h
    · exact ⟨0, n.succ_pos, e.symm⟩
    · obtain ⟨k, hk, e⟩ := orb_mem m n _ y h
      exact ⟨k + 1, Nat.succ_lt_succ hk, by rw [← lcg_shift]; exact e⟩
theorem lcg_comp (m x a : Nat) : ∀ b, lcgI m (lcgI m x a) b = lcgI m x (a + b)
  | 0 => rfl
  | b + 1 => by
    have e := lcg_comp m x a b
    show (lcgI m (lcgI m x a) b * 5 + 1) % (m + 1) = (lcgI m x (a + b) * 5 + 1) % (m + 1)
    rw [e]
noncomputable def bitsOf (l : List Nat) : Nat := l.foldl (fun acc x => acc ||| (1 <<< x)) 0
theorem bits_mem : ∀ (l : List Nat) (acc j : Nat), (l.foldl (fun acc x => acc ||| (1 <<< x)) acc).testBit j = true → acc.testBit j = true ∨ j ∈ l
  | [], acc, j, h => .inl h
  | x :: l, acc, j, h => by
    rcases bits_mem l _ j h with h | h
    · rw [Nat.testBit_or, Bool.or_eq_true] at h
      rcases h with h | h
      · exact .inl h
      · refine .inr (List.mem_cons.mpr (.inl ?_))
        rw [Nat.one_shiftLeft, Nat.testBit_two_pow] at h
        exact (of_decide_eq_true h).symm
    · exact .inr (List.mem_cons_of_mem _ h)
set_option exponentiation.threshold 600 in
theorem full511 : Full 511 := by
  have hb : bitsOf (orb 511 512 0) = 2 ^ 512 - 1 := by decide +kernel
  have h0 : lcgI 511 0 512 = 0 := by decide +kernel
  have all : ∀ j, j ≤ 511 → ∃ k, k < 512 ∧ lcgI 511 0 k = j := fun j hj => by
    have h1 : (bitsOf (orb 511 512 0)).testBit j = true := by
      rw [hb, Nat.testBit_two_pow_sub_one]
      exact decide_eq_true (by omega)
    rcases bits_mem _ 0 j h1 with h | h
    · simp at h
    · exact orb_mem 511 512 0 j h
  intro i j hi hj
  obtain ⟨a, ha, ea⟩ := all i hi
  obtain ⟨b, hb', eb⟩ := all j hj
  by_cases c : a ≤ b
  · exact ⟨b - a, by omega, by rw [← ea, lcg_comp, Nat.add_sub_cancel' c]; exact eb⟩
  · refine ⟨b + 512 - a, by omega, ?_⟩
    rw [← ea, lcg_comp, show a + (b + 512 - a) = 512 + b by omega, ← lcg_comp, h0]
    exact eb
section
variable {m : Nat}
theorem full_run (F : Full m) (h : Int) {j : Nat} (hj : j ≤ m) : ∃ n, n ≤ m + 12 ∧ runI m (SetTable.bits h) n = j := by
  obtain ⟨k, h1, h2⟩ := F _ j (runI_le m (SetTable.bits h) 12) hj
  refine ⟨12 + k, by omega, ?_⟩
  rw [runI_tail (bits_lt h)]
  exact h2
theorem full_way (F : Full m) (h : Int) {j : Nat} (hj : j ≤ m) : ∃ k, k < 10 * SetTable.turns m ∧ way m h k = j := by
  obtain ⟨n, h1, h2⟩ := full_run F h hj
  obtain ⟨k, h3, h4⟩ := run_nth m (SetTable.bits h) n
  refine ⟨k, ?_, (congrArg SetTable.Probe.j h4).trans h2⟩
  unfold SetTable.turns
  omega
theorem wayB (h : Int) (k : Nat) : way m h k ≤ m := by
  have s : SetTable.bits h % (m + 1) ≤ m := Nat.lt_succ_iff.mp (Nat.mod_lt _ m.succ_pos)
  have b := runEnd_bd s
  have := nth_in (m := m) k (runAt m (SetTable.bits h % (m + 1)) (SetTable.bits h)) (by simp only [runAt]; omega)
  exact Nat.le_trans (Nat.le_add_right _ _) this
/-- the first free place of a way, where one is free at all -/
theorem first_free {p : Nat → Prop} (F : Full m) (h : Int) {j : Nat} (hj : j ≤ m) (hp : p j) : ∃ K, K < 10 * SetTable.turns m ∧ p (way m h K) ∧ ∀ k, k < K → ¬ p (way m h k) := by
  obtain ⟨k, h1, h2⟩ := full_way F h hj
  obtain ⟨K, a, b, c⟩ := st_least (p := fun k => p (way m h k)) k (by show p (way m h k); rw [h2]; exact hp)
  exact ⟨K, Nat.lt_of_le_of_lt a h1, b, c⟩
end
/-- a table: each slot is found again by its hash -/
structure TabB (t : SetTable) (hs : List Int) : Prop where
  full : Full t.mask
  odd : t.mask % 2 = 1
  dum : t.dummies = #[]
  rise : Ris t.place.toList
  num : t.place.toList.length = hs.length
  bnd : ∀ x ∈ t.place.toList, x ≤ t.mask
  find : ∀ (i : Nat) (h : Int) (j : Nat), hs[i]? = some h → t.place.toList[i]? = some j → ∃ k, way t.mask h k = j ∧ ∀ k', k' < k → way t.mask h k' ∈ t.place.toList
theorem TabB.gap {t : SetTable} {hs : List Int} (T : TabB t hs) (hl : hs.length ≤ t.mask) (h : Int) : ∃ K, K < 10 * SetTable.turns t.mask ∧ way t.mask h K ∉ t.place.toList ∧ ∀ k, k < K → way t.mask h k ∈ t.place.toList := by
  obtain ⟨j, h1, h2⟩ := st_missing t.place.toList (t.mask + 1) (by rw [T.num]; omega)
  obtain ⟨K, a, b, c⟩ := first_free (p := fun j => j ∉ t.place.toList) T.full h (Nat.lt_succ_iff.mp h1) h2
  exact ⟨K, a, b, fun k hk => Classical.not_not.mp (c k hk)⟩
theorem TabB.ahead {t : SetTable} {hs : List Int} (T : TabB t hs) {h : Int} {K i j : Nat} (hK : way t.mask h K ∉ t.place.toList) (hi : hs[i]? = some h) (hj : t.place.toList[i]? = some j) : ∃ k, k < K ∧ way t.mask h k = j := by
  obtain ⟨k, e, b⟩ := T.find i h j hi hj
  have m := List.mem_of_getElem? hj
  refine ⟨k, Nat.lt_of_not_le fun c => ?_, e⟩
  rcases Nat.lt_or_eq_of_le c with c | c
  · exact hK (b K c)
  · rw [c, e] at hK; exact hK m
theorem TabB.add {t : SetTable} {hs : List Int} (T : TabB t hs) {h : Int} {K : Nat} (hK : way t.mask h K ∉ t.place.toList) (hb : ∀ k, k < K → way t.mask h k ∈ t.place.toList) :
    let p := SetTable.below t.place (way t.mask h K)
    let t' := (t.put (way t.mask h K)).1
    (t.put (way t.mask h K)).2 = p ∧ p ≤ hs.length ∧ TabB t' (hs.take p ++ h :: hs.drop p) ∧ t'.mask = t.mask ∧ t'.led = t.led ∧ t'.plain = t.plain ∧ t'.fill = hs.length + 1 := by
  intro p t'
  have hp1 : p ≤ t.place.toList.length := (below_cut T.rise _).1
  have hp2 : p ≤ hs.length := T.num ▸ hp1
  have hpl : t'.place.toList = t.place.toList.take p ++ way t.mask h K :: t.place.toList.drop p := put_place t _
  have hdm : t'.dummies = #[] := put_dm T.dum _
  have hlen : t'.place.toList.length = hs.length + 1 := by rw [hpl, len_ins _ hp1, T.num]
  have keep : ∀ y, y ∈ t.place.toList → y ∈ t'.place.toList := fun y hy => by rw [hpl]; exact mem_ins.mpr (.inr hy)
  refine ⟨rfl, hp2, ⟨T.full, T.odd, hdm, ?_, by rw [hlen, len_ins _ hp2], fun x hx => ?_, fun i h' j h1 h2 => ?_⟩, rfl, rfl, rfl, ?_⟩
  · exact ris_insert T.rise fun e => hK (by rw [← Array.getElem?_toList] at e; exact List.mem_of_getElem? e)
  · rw [hpl] at hx
    rcases mem_ins.mp hx with rfl | hx
    · exact wayB h K
    · exact T.bnd x hx
  · rw [hpl, tins_get _ hp1] at h2
    rw [tins_get hs hp2] at h1
    show ∃ k, way t.mask h' k = j ∧ ∀ k', k' < k → way t.mask h' k' ∈ t'.place.toList
    rcases Nat.lt_trichotomy i p with c | c | c
    · rw [if_pos c] at h1 h2
      obtain ⟨k, a, b⟩ := T.find i h' j h1 h2
      exact ⟨k, a, fun k' hk => keep _ (b k' hk)⟩
    · rw [if_neg (by omega), if_pos c] at h1 h2
      cases h1
      cases h2
      exact ⟨K, rfl, fun k' hk => keep _ (hb k' hk)⟩
    · rw [if_neg (by omega), if_neg (by omega)] at h1 h2
      obtain ⟨k, a, b⟩ := T.find (i - 1) h' j h1 h2
      exact ⟨k, a, fun k' hk => keep _ (b k' hk)⟩
  · show t'.place.toList.length + t'.dummies.size = _
    rw [hlen, hdm]
    rfl
structure OwnB (m : Nat) (done : List Int) (ow : Array (Option Nat)) : Prop where
  size : ow.size = m + 1
  back : ∀ j k, j ≤ m → oAt ow j = some k → ∃ h K, done[k]? = some h ∧ way m h K = j ∧ ∀ k', k' < K → oAt ow (way m h k') ≠ none
  has : ∀ k, k < done.length → ∃ j, j ≤ m ∧ oAt ow j = some k
  few : ∃ ps : List Nat, ps.length = done.length ∧ ∀ j, j ≤ m → oAt ow j ≠ none → j ∈ ps
theorem free_at {m : Nat} (F : Full m) (ow : Array (Option Nat)) (h : Int) {j : Nat} (hj : j ≤ m) (hf : oAt ow j = none) :
    ∃ K, SetTable.layClean.free m ow (SetTable.turns m) (SetTable.bits h % (m + 1)) (SetTable.bits h) = some (way m h K) ∧ oAt ow (way m h K) = none ∧ ∀ k, k < K → oAt ow (way m h k) ≠ none := by
  obtain ⟨n, h1, h2⟩ := full_run F h hj
  let N := off m (SetTable.bits h % (m + 1)) (SetTable.bits h) n
  have hN : way m h N = j := by
    have := nth_off m n (SetTable.bits h % (m + 1)) (SetTable.bits h)
    exact (congrArg SetTable.Probe.j this).trans (by rw [itL_run]; exact h2)
  obtain ⟨K, a, b, c⟩ := st_least (p := fun k => oAt ow (way m h k) = none) N (by show oAt ow (way m h N) = none; rw [hN]; exact hf)
  refine ⟨K, free_spec m ow _ n _ _ K (by unfold SetTable.turns; omega) a (fun k hk => ?_) (by rw [b]; rfl), b, c⟩
  have := c k hk
  rw [Option.isNone_eq_false_iff, Option.isSome_iff_ne_none]
  exact this
theorem OwnB.more {m : Nat} (F : Full m) {done : List Int} {ow : Array (Option Nat)} (W : OwnB m done ow) (hl : done.length ≤ m) (h : Int) :
    ∃ j, SetTable.layClean.free m ow (SetTable.turns m) (SetTable.bits h % (m + 1)) (SetTable.bits h) = some j ∧ OwnB m (done ++ [h]) (ow.setIfInBounds j (some done.length)) := by
  obtain ⟨ps, f1, f2⟩ := W.few
  obtain ⟨g, g1, g2⟩ := st_missing ps (m + 1) (by omega)
  have hg : oAt ow g = none := Classical.byContradiction fun c => g2 (f2 g (Nat.lt_succ_iff.mp g1) c)
  obtain ⟨K, e1, e2, e3⟩ := free_at F ow h (Nat.lt_succ_iff.mp g1) hg
  have hw : way m h K < ow.size := by rw [W.size]; exact Nat.lt_succ_iff.mpr (wayB h K)
  generalize hj : way m h K = j at e1 e2 hw
  have own := oAt_set_self (some done.length) hw
  have oth : ∀ i, i ≠ j → oAt (ow.setIfInBounds j (some done.length)) i = oAt ow i := fun i hi => oAt_set_ne _ hi
  have stay : ∀ i, oAt ow i ≠ none → oAt (ow.setIfInBounds j (some done.length)) i ≠ none := fun i hi => by
    by_cases c : i = j
    · subst c; rw [own]; simp
    · rw [oth i c]; exact hi
  refine ⟨j, e1, by simp [W.size], fun i k hi e => ?_, fun k hk => ?_, j :: ps, by simp [f1], fun i hi e => ?_⟩
  · by_cases c : i = j
    · subst c
      rw [own] at e
      cases e
      exact ⟨h, K, by simp, hj, fun k' hk => stay _ (e3 k' hk)⟩
    · rw [oth i c] at e
      obtain ⟨h', K', a1, a2, a3⟩ := W.back i k hi e
      have := (List.getElem?_eq_some_iff.mp a1).1
      exact ⟨h', K', by rw [List.getElem?_append_left this]; exact a1, a2, fun k' hk => stay _ (a3 k' hk)⟩
  · by_cases c : k = done.length
    · subst c
      exact ⟨j, by rw [W.size] at hw; omega, own⟩
    · have hk' : k < done.length := by simp at hk; omega
      obtain ⟨i, a1, a2⟩ := W.has k hk'
      exact ⟨i, a1, by rw [oth i (fun z => by rw [z, e2] at a2; cases a2)]; exact a2⟩
  · by_cases c : i = j
    · simp [c]
    · rw [oth i c] at e
      exact List.mem_cons_of_mem _ (f2 i hi e)
theorem lay_all {m : Nat} (F : Full m) : ∀ (rest done : List Int) (ow : Array (Option Nat)), OwnB m done ow → done.length + rest.length ≤ m →
    ∃ ow', rest.foldl (stepF m) (some (ow, done.length)) = some (ow', (done ++ rest).length) ∧ OwnB m (done ++ rest) ow'
  | [], done, ow, W, _ => ⟨ow, by simp, by simpa using W⟩
  | h :: rest, done, ow, W, hl => by
    simp only [List.length_cons] at hl
    obtain ⟨j, e, W1⟩ := W.more F (by omega) h
    obtain ⟨ow', e2, W2⟩ := lay_all F rest (done ++ [h]) _ W1 (by simp; omega)
    simp only [List.append_assoc, List.singleton_append, List.length_append, List.length_singleton] at e2 W2
    refine ⟨ow', ?_, W2⟩
    rw [List.foldl_cons, stepF_some e, e2, List.length_append]
theorem own0 (m : Nat) : OwnB m [] (Array.replicate (m + 1) none) :=
  ⟨by simp, fun j k hj e => absurd e (by rw [oAt_init hj]; simp), fun k hk => absurd hk (by simp), [], rfl, fun j hj e => absurd (oAt_init hj) e⟩
theorem laid_anew (t : SetTable) {hs : Array Int} {wanted M : Nat} (hw : SetTable.sizeAbove wanted - 1 = M) (F : Full M) (ho : M % 2 = 1) (hn : hs.size ≤ M) :
    ∃ t' order, t.relaid hs wanted = some (t', order) ∧ order.toList.Perm (List.range hs.size) ∧ TabB t' (order.toList.map fun i => hs.getD i 0) ∧ t'.mask = M ∧ t'.led = t.led ∧ t'.plain = t.plain := by
  obtain ⟨ow, e, W⟩ := lay_all F hs.toList [] _ (own0 M) (by simpa using hn)
  have hL : SetTable.layClean M hs = some ow := by
    rw [layClean_eq]
    exact congrArg (Option.map (·.1)) e
  have rise := ris_live (fun j => ow.getD j none) (List.range (M + 1)) (show List.Pairwise _ _ from by first | exact List.pairwise_lt_range | exact List.pairwise_lt_range _)
  change Ris ((liveOf M ow).map (·.1)) ∧ ∀ x ∈ (liveOf M ow).map (·.1), x ∈ List.range (M + 1) at rise
  rw [List.nil_append] at W
  have live : ∀ j k, (j, k) ∈ liveOf M ow ↔ j ≤ M ∧ oAt ow j = some k := fun j k => mem_live W.size
  have hcount : (liveOf M ow).length = hs.size := by
    obtain ⟨ps, f1, f2⟩ := W.few
    have nd : List.Nodup ((liveOf M ow).map (·.1) : List Nat) := rise.1.imp fun h => Nat.ne_of_lt h
    have up := nat_nodup_len _ ps nd fun x hx => by
      obtain ⟨⟨y, k⟩, hq, rfl⟩ := List.mem_map.mp hx
      have := (live y k).mp hq
      exact f2 y this.1 (by rw [this.2]; simp)
    have dn := nat_nodup_len (List.range hs.size) ((liveOf M ow).map (·.2) : List Nat) List.nodup_range fun k hk => by
      obtain ⟨j, a, b⟩ := W.has k (by simpa using hk)
      exact List.mem_map.mpr ⟨(j, k), (live j k).mpr ⟨a, b⟩, rfl⟩
    simp at up dn f1
    omega
  refine ⟨tabOf t M ow, ((liveOf M ow).map (·.2)).toArray, by rw [relaid_eq, hw, hL]; rfl, ?_, ⟨F, ho, rfl, rise.1, by simp [tabOf], fun x hx => ?_, fun i h j h1 h2 => ?_⟩, rfl, rfl, rfl⟩
  · refine perm_range _ _ (by simpa using hcount) fun k hk => ?_
    obtain ⟨j, a, b⟩ := W.has k (by simpa using hk)
    exact List.mem_map.mpr ⟨(j, k), (live j k).mpr ⟨a, b⟩, rfl⟩
  · exact Nat.lt_succ_iff.mp (List.mem_range.mp (rise.2 x hx))
  · change (((liveOf M ow).map (·.2)).map fun i => hs.getD i 0)[i]? = some h at h1
    change ((liveOf M ow).map (·.1))[i]? = some j at h2
    simp only [List.getElem?_map] at h1 h2
    cases q : (liveOf M ow)[i]? with
    | none => rw [q] at h2; cases h2
    | some y =>
      obtain ⟨y, k⟩ := y
      rw [q] at h1 h2
      obtain rfl : y = j := Option.some.inj h2
      obtain rfl : hs.getD k 0 = h := Option.some.inj h1
      obtain ⟨a, b⟩ := (live y k).mp (List.mem_of_getElem? q)
      obtain ⟨h0, K, c1, c2, c3⟩ := W.back y k a b
      have e0 : hs.getD k 0 = h0 := by simp [Array.getD_eq_getD_getElem?, ← Array.getElem?_toList, c1]
      rw [e0]
      refine ⟨K, c2, fun k' hk => ?_⟩
      obtain ⟨z, hz⟩ := Option.ne_none_iff_exists'.mp (c3 k' hk)
      exact List.mem_map.mpr ⟨(_, z), (live _ z).mpr ⟨wayB h0 k', hz⟩, rfl⟩
end DL
set_option maxHeartbeats 4000000
namespace DL
open PySem PySem.Spec PyProof.Rows L2
section
variable {P : Program} {w : World} {A : Around} {E : Value → Shared → Prop} {s : Shared}
/-- the set of tuples at ad: its rows L, as they stand in the table -/
structure SetB (P : Program) (w : World) (h : Heap) (ad : Addr) (L : List (Addr × List Int)) (en : Array (Int × Value)) (ep : Nat) (tb : SetTable) : Prop where
  obj : ∃ o, h.get? ad = some o ∧ o.ExactSet ∧ o.data = .set en ep tb
  row : en.toList = rowsOf P w L
  tab : TabB tb (L.map fun p => thash P w p.2)
  msk : tb.mask = 7 ∨ tb.mask = 31 ∨ tb.mask = 127 ∨ tb.mask = 511
  one : (L.map (·.2)).Nodup
  are : ∀ p ∈ L, L2.IsT P w h p.2 p.1
  pln : tb.plain = true
  see : w.params.followText "set-order" = true ∨ tb.led = true
  gap : L.length * 5 < tb.mask * 3
  few : L.length < 300
variable {ad : Addr} {L : List (Addr × List Int)} {en : Array (Int × Value)} {ep : Nat} {tb : SetTable}
theorem SetB.len (R : SetB P w s.heap ad L en ep tb) : en.size = L.length := by
  simpa [rowsOf] using congrArg List.length R.row
theorem SetB.num (R : SetB P w s.heap ad L en ep tb) : tb.place.size = L.length := by simpa using R.tab.num
theorem SetB.fit (R : SetB P w s.heap ad L en ep tb) : tb.fits en.size = true := by
  have h1 := R.num
  have h2 := R.len
  have h3 := R.gap
  simp only [SetTable.fits, SetTable.fill, R.tab.dum, Bool.and_eq_true, beq_iff_eq, decide_eq_true_eq, Array.size_empty]
  omega
theorem SetB.nth (R : SetB P w s.heap ad L en ep tb) {i : Nat} {p : Addr × List Int} (h : L[i]? = some p) : en[i]? = some (thash P w p.2, Value.ref p.1) := by
  rw [← Array.getElem?_toList, R.row]
  simp [rowsOf, h]
theorem SetB.stays (R : SetB P w s.heap ad L en ep tb) : ¬ tb.gaveWay = true := by simp [SetTable.gaveWay, R.tab.odd]
noncomputable abbrev wayT (tb : SetTable) (h : Int) (c : Nat) : SetTable.Probe := L2.nth tb.mask (runAt tb.mask (SetTable.bits h % (tb.mask + 1)) (SetTable.bits h)) c
theorem nodum (m : Nat) : ∀ (n : Nat) (p : SetTable.Probe), p.dummy = none → (L2.nth m p n).dummy = none
  | 0, _, h => h
  | n + 1, p, h => nodum m n (adv m p) (by unfold adv; split <;> exact h)
/-- from the c-th step of the search on -/
theorem SetB.seek (R : SetB P w s.heap ad L en ep tb) {x : Addr} {k : List Int} (hx : L2.IsT P w s.heap k x) (hu : A.units < cLine) {K : Nat} (hKf : K < 10 * SetTable.turns tb.mask)
    (hK : way tb.mask (thash P w k) K ∉ tb.place.toList) (hKb : ∀ c, c < K → way tb.mask (thash P w k) c ∈ tb.place.toList) {Q : SetFound → Shared → Prop}
    (yes : k ∈ L.map (·.2) → Q (.there none) s) (no : k ∉ L.map (·.2) → Q (.free (way tb.mask (thash P w k) K) false) s) :
    ∀ (f c : Nat) (st : Option SetTable.Probe), st.getD (tb.probeStart (thash P w k)) = wayT tb (thash P w k) c → c ≤ K → K - c < f →
      (∀ (i : Nat) p, L[i]? = some p → p.2 = k → ∃ c', c ≤ c' ∧ c' < K ∧ tb.place.toList[i]? = some (way tb.mask (thash P w k) c')) →
      wpAny (model P w) A (setSearchFrom ad (.ref x) (thash P w k) true f st) Q E s := by
  obtain ⟨o, ho, hex, hd⟩ := R.obj
  let H : Nat → Int := fun i => (en[i]?.map (·.1)).getD 0
  have hH : ∀ (i : Nat) p, L[i]? = some p → H i = thash P w p.2 := fun i p hp => by
    show (en[i]?.map (·.1)).getD 0 = _
    rw [R.nth hp] <;> rfl
  intro f
  induction f with
  | zero => intro c st _ _ hf; exact absurd hf (Nat.not_lt_zero _)
  | succ f ih =>
    intro c st hst hc hf hre
    rw [setSearchFrom_succ]
    refine wpAny_bind (wpAny_setState_of ho hd R.fit ?_)
    dsimp only
    refine wp_if_neg R.stays ?_
    try refine wpAny_bind (wpAny_pure ?_)
    have on : ∀ q, L2.nth tb.mask (wayT tb (thash P w k) c) q = wayT tb (thash P w k) (c + q) := fun q => (nth_add tb.mask c _ q).symm
    have onj : ∀ q, (L2.nth tb.mask (wayT tb (thash P w k) c) q).j = way tb.mask (thash P w k) (c + q) := fun q => congrArg SetTable.Probe.j (on q)
    rcases go_spec tb R.tab.rise R.tab.dum H (thash P w k) (10 * SetTable.turns tb.mask) (K - c) (wayT tb (thash P w k) c) (nodum tb.mask c _ rfl) (by omega)
      (fun q hq => by rw [onj]; exact hKb (c + q) (by omega)) (by rw [onj, Nat.add_sub_cancel' hc]; exact hK) with ⟨q, i, hq, hi, hh, hno, hpr⟩ | ⟨hno, hpr⟩
    · rw [onj] at hi
      have met : tb.probe H (thash P w k) (st.getD (tb.probeStart (thash P w k))) = some (.candidate (way tb.mask (thash P w k) (c + q)) i (wayT tb (thash P w k) (c + (q + 1)))) := by
        rw [hst, ← onj, ← on]; exact hpr
      rw [met]
      dsimp only
      have hil : i < L.length := by
        have := (List.getElem?_eq_some_iff.mp hi).1
        rw [R.tab.num, List.length_map] at this
        exact this
      obtain ⟨p, hp⟩ : ∃ p, L[i]? = some p := ⟨_, List.getElem?_eq_getElem hil⟩
      have hpm := List.mem_of_getElem? hp
      have stand : tb.slot (way tb.mask (thash P w k) (c + q)) = .live i := slot_live R.tab.rise hi
      have on_ : wpAny (model P w) A (searchRest ad (.ref x) (thash P w k) true f en tb (way tb.mask (thash P w k) (c + q)) i (wayT tb (thash P w k) (c + (q + 1)))) Q E s := by
        unfold searchRest
        rw [R.nth hp]
        dsimp only
        refine wpAny_bind (wpAny_holding (wpAny_eqBool_tuple hu (R.are p hpm) hx ?_))
        refine wpAny_bind (wpAny_setState_of ho hd R.fit ?_)
        dsimp only
        by_cases same : p.2 = k
        · exact wp_if_pos (by simp [same]) (wpAny_pure (yes (List.mem_map.mpr ⟨p, hpm, same⟩)))
        · refine wp_if_neg (by simp [same]) ?_
          try refine wpAny_bind (wpAny_pure ?_)
          rw [sameMem]
          dsimp only
          simp only [if_true, stand, R.nth hp]
          refine wpAny_bind (wpAny_isSame_ref_self (wpAny_bind (wpAny_pure ?_)))
          simp only [if_true]
          refine wp_if_neg (by simp [same]) ?_
          refine ih (c + (q + 1)) _ rfl (by omega) (by omega) fun i0 p0 h0 hk0 => ?_
          obtain ⟨c', a1, a2, a3⟩ := hre i0 p0 h0 hk0
          suffices past : ¬ c' ≤ c + q from ⟨c', by omega, a2, a3⟩
          intro z
          rcases Nat.lt_or_eq_of_le z with z | z
          · exact hno (c' - c) i0 (by omega) (by rw [onj, Nat.add_sub_cancel' a1]; exact a3) ((hH i0 p0 h0).trans (congrArg (thash P w) hk0))
          · rw [z] at a3
            have := slot_live R.tab.rise a3
            rw [stand] at this
            injection this with this
            rw [← this, hp] at h0
            exact same ((congrArg Prod.snd (Option.some.inj h0)).trans hk0)
      by_cases hl : tb.led = true
      · refine wp_if_neg (by simp [hl]) ?_
        try refine wpAny_bind (wpAny_pure ?_)
        exact on_
      · refine wp_if_pos (by simp [hl]) ?_
        refine wpAny_bind (seen_tup hx (fun y hy => ?_) ?_)
        · obtain ⟨e, he, rfl⟩ := List.mem_map.mp hy
          have he1 : e ∈ en ∧ e.1 = thash P w k := by simpa using he
          have he2 : e ∈ rowsOf P w L := by rw [← R.row]; simpa using he1.1
          obtain ⟨p2, hp2, rfl⟩ := List.mem_map.mp he2
          exact ⟨p2.2, p2.1, rfl, R.are p2 hp2⟩
        · refine wp_if_neg (by decide) ?_
          try refine wpAny_bind (wpAny_pure ?_)
          exact on_
    · have met : tb.probe H (thash P w k) (st.getD (tb.probeStart (thash P w k))) = some (.empty (way tb.mask (thash P w k) K) none) := by
        have e2 := onj (K - c)
        rw [Nat.add_sub_cancel' hc] at e2
        rw [hst, ← e2]
        exact hpr
      rw [met]
      dsimp only
      refine wpAny_pure (no fun hm => ?_)
      obtain ⟨p0, h0, hk0⟩ := List.mem_map.mp hm
      obtain ⟨i0, hi0, e0⟩ := List.getElem_of_mem h0
      have h00 : L[i0]? = some p0 := by rw [List.getElem?_eq_getElem hi0, e0]
      obtain ⟨c', a1, a2, a3⟩ := hre i0 p0 h00 hk0
      exact hno (c' - c) i0 (by omega) (by rw [onj, Nat.add_sub_cancel' a1]; exact a3) ((hH i0 p0 h00).trans (congrArg (thash P w) hk0))
theorem SetB.look (R : SetB P w s.heap ad L en ep tb) {x : Addr} {k : List Int} (hx : L2.IsT P w s.heap k x) (hu : A.units < cLine) {Q : SetFound → Shared → Prop}
    (yes : k ∈ L.map (·.2) → Q (.there none) s)
    (no : ∀ K, k ∉ L.map (·.2) → way tb.mask (thash P w k) K ∉ tb.place.toList → (∀ c, c < K → way tb.mask (thash P w k) c ∈ tb.place.toList) → Q (.free (way tb.mask (thash P w k) K) false) s) :
    wpAny (model P w) A (setSearch ad (.ref x) (thash P w k) true) Q E s := by
  have g := R.gap
  obtain ⟨K, h1, h2, h3⟩ := R.tab.gap (by rw [List.length_map]; omega) (thash P w k)
  have big : K < 100000 := by
    have : SetTable.turns tb.mask = tb.mask + 15 := rfl
    have := R.msk
    omega
  unfold setSearch
  refine R.seek hx hu h1 h2 h3 yes (fun z => no K z h2 h3) 100000 0 none rfl K.zero_le (by omega) fun i p hp hk => ?_
  have hi : (L.map fun p => thash P w p.2)[i]? = some (thash P w k) := by simp [hp, hk]
  have hil : i < tb.place.toList.length := by
    rw [R.tab.num, List.length_map]
    exact (List.getElem?_eq_some_iff.mp hp).1
  obtain ⟨c, hc, e⟩ := R.tab.ahead h2 hi (List.getElem?_eq_getElem hil)
  exact ⟨c, c.zero_le, hc, by rw [e]; exact List.getElem?_eq_getElem hil⟩
/-- laid anew, larger -/
theorem relay_B {o : Obj} (ho : s.heap.get? ad = some o) (hex : o.ExactSet) (hd : o.data = .set en ep tb) (hr : en.toList = rowsOf P w L) (hn : tb.place.size = en.size) (hdm : tb.dummies = #[]) (hfl : en.size ≤ tb.mask)
    (nd : (L.map (·.2)).Nodup) (are : ∀ p ∈ L, L2.IsT P w s.heap p.2 p.1) (pl : tb.plain = true) (ld : w.params.followText "set-order" = true ∨ tb.led = true) (few : L.length < 300) {wanted M : Nat}
    (hw : SetTable.sizeAbove wanted - 1 = M) (hM : Full M) (hM2 : M = 7 ∨ M = 31 ∨ M = 127 ∨ M = 511) (hw2 : SetTable.sizeAbove wanted ≤ 512) (hg : L.length * 5 < M * 3) {Q : Unit → Shared → Prop}
    (hQ : ∀ h' L' en' ep' tb', Heap.SameBut ad s.heap h' → SetB P w h' ad L' en' ep' tb' → L'.Perm L → Q () { s with heap := h' }) : wpAny (model P w) A (setRelay ad wanted) Q E s := by
  have hsl : en.size = L.length := by simpa [rowsOf] using congrArg List.length hr
  have hfit : tb.fits en.size = true := by
    simp only [SetTable.fits, SetTable.fill, hdm, Bool.and_eq_true, beq_iff_eq, decide_eq_true_eq, Array.size_empty]
    omega
  obtain ⟨tb', order, e, hp, T, em, el, epl⟩ := laid_anew tb (hs := en.map (·.1)) hw hM (by omega) (by rw [Array.size_map]; omega)
  rw [Array.size_map, hsl] at hp
  obtain ⟨L2, r1, r2, r3⟩ := order_rows L en order hr hp
  rw [← r3] at T
  have hs2 : (order.filterMap (en[·]?)).size = en.size := by
    have := congrArg List.length r1
    simp only [rowsOf, List.length_map, r2.length_eq, Array.length_toList] at this
    omega
  have hline : (1000 : Nat) ≤ sizeLine := by rw [sizeLine_eq]; omega
  rw [setRelay_eq]
  refine wpAny_bind (wpAny_setState_of ho hd hfit ?_)
  dsimp only
  refine wp_if_neg (by omega) ?_
  try refine wpAny_bind (wpAny_pure ?_)
  rw [e]
  dsimp only
  refine wpAny_bind ?_
  refine wp_if_neg (by simp [hs2]) ?_
  try refine wpAny_bind (wpAny_pure ?_)
  refine wpAny_pure ?_
  dsimp only
  refine wpAny_storeSet_of ho hd ?_ (by omega)
  have sb : Heap.SameBut ad s.heap (s.heap.update ad (Obj.putSet (order.filterMap (en[·]?)) tb')) := Heap.SameBut.update ..
  exact hQ _ L2 _ (ep + 1) tb' sb ⟨⟨_, store_at ho hd, ⟨hex.1, hex.2.1, hex.2.2⟩, rfl⟩, r1, T, by rw [em]; exact hM2, (r2.map (·.2)).nodup_iff.mpr nd, fun p k => isT_same (are p (r2.mem_iff.mp k)) ho hd sb,
    by rw [epl]; exact pl, by rw [el]; exact ld, by rw [r2.length_eq, em]; exact hg, by rw [r2.length_eq]; exact few⟩ r2
theorem size_308 : SetTable.sizeAbove (SetTable.grown 77) = 512 := by decide +kernel
/-- one more -/
theorem SetB.put (R : SetB P w s.heap ad L en ep tb) {x : Addr} {k : List Int} (hx : L2.IsT P w s.heap k x) (hu : A.units < cLine) (few : L.length + 1 < 300) {Q : Bool → Shared → Prop}
    (hQ : ∀ b h' L' en' ep' tb', Heap.SameBut ad s.heap h' → SetB P w h' ad L' en' ep' tb' → (k ∈ L.map (·.2) → L' = L) → (k ∉ L.map (·.2) → L'.Perm ((x, k) :: L)) → Q b { s with heap := h' }) :
    wpAny (model P w) A (setAddHashed ad (.ref x) (thash P w k)) Q E s := by
  obtain ⟨o, ho, hex, hd⟩ := R.obj
  have hlen := R.len
  have hgap := R.gap
  have hline : (1000 : Nat) ≤ sizeLine := by rw [sizeLine_eq]; omega
  unfold setAddHashed
  refine wpAny_holding ?_
  rw [show (100000 : Nat) = 99999 + 1 from rfl, setAddHashedIn_succ]
  refine wpAny_bind (wpAny_setState_of ho hd R.fit ?_)
  dsimp only
  refine wp_if_neg (by simp [byScan, Value.scannable]) ?_
  try refine wpAny_bind (wpAny_pure ?_)
  refine wpAny_bind (R.look hx hu (fun hm => ?_) fun K hm hK hb => ?_)
  · exact wpAny_pure (hQ false s.heap L en ep tb (Heap.SameBut.refl ad s.heap) R (fun _ => rfl) fun z => absurd hm z)
  · dsimp only
    refine wpAny_bind (wpAny_setState_of ho hd R.fit ?_)
    dsimp only
    obtain ⟨q1, q2, q3, q4, q5, q6, q7⟩ := R.tab.add hK hb
    have pl1 : (tb.put (way tb.mask (thash P w k) K)).1.plain = true := q6.trans R.pln
    generalize hpt : tb.put (way tb.mask (thash P w k) K) = pt at q1 q3 q4 q5 q6 q7 pl1 ⊢
    obtain ⟨tb1, pos⟩ := pt
    dsimp only at q1 q3 q4 q5 q6 q7 pl1 ⊢
    subst q1
    first
      | (refine wpAny_bind ?_; refine wp_if_pos pl1 ?_; refine hashBy_tup hx ?_)
      | refine wp_if_pos pl1 (wpAny_bind (hashBy_tup hx ?_))
    simp only [if_true]
    have rows1 : (SetTable.insertAt en (SetTable.below tb.place (way tb.mask (thash P w k) K)) (thash P w k, Value.ref x)).toList = rowsOf P w (L.take (SetTable.below tb.place (way tb.mask (thash P w k) K)) ++ (x, k) :: L.drop (SetTable.below tb.place (way tb.mask (thash P w k) K))) := by
      rw [SetTable.toList_insertAt, rows_put, R.row]
    generalize SetTable.below tb.place (way tb.mask (thash P w k) K) = pos at q2 q3 rows1 ⊢
    have pm : (L.take pos ++ (x, k) :: L.drop pos).Perm ((x, k) :: L) := put_perm L pos (x, k)
    have hl1 := pm.length_eq
    rw [List.length_cons] at hl1
    have hh1 : (L.map fun p => thash P w p.2).take pos ++ thash P w k :: (L.map fun p => thash P w p.2).drop pos = (L.take pos ++ (x, k) :: L.drop pos).map fun p => thash P w p.2 := by simp [List.map_take, List.map_drop]
    rw [hh1] at q3
    have nd1 : ((L.take pos ++ (x, k) :: L.drop pos).map (·.2)).Nodup := (pm.map (·.2)).nodup_iff.mpr (List.nodup_cons.mpr ⟨hm, R.one⟩)
    have hn1 : (SetTable.insertAt en pos (thash P w k, Value.ref x)).size = L.length + 1 := by
      have := congrArg List.length rows1
      simp only [rowsOf, List.length_map, Array.length_toList] at this
      omega
    generalize SetTable.insertAt en pos (thash P w k, Value.ref x) = en1 at rows1 hn1 ⊢
    generalize L.take pos ++ (x, k) :: L.drop pos = L1 at pm hl1 q3 nd1 rows1
    refine wpAny_bind (wpAny_storeSet_of ho hd ?_ (by omega))
    have sb : Heap.SameBut ad s.heap (s.heap.update ad (Obj.putSet en1 tb1)) := Heap.SameBut.update ..
    have ho1 := store_at (es' := en1) (t' := tb1) ho hd
    generalize s.heap.update ad (Obj.putSet en1 tb1) = h1 at sb ho1 ⊢
    have are1 : ∀ p ∈ L1, L2.IsT P w h1 p.2 p.1 := fun p hp => by
      rcases List.mem_cons.mp (pm.mem_iff.mp hp) with rfl | hp
      · exact isT_same hx ho hd sb
      · exact isT_same (R.are p hp) ho hd sb
    have ld1 : w.params.followText "set-order" = true ∨ tb1.led = true := by rw [q5]; exact R.see
    have hnum : tb1.place.size = L.length + 1 := by have := q3.num; simpa [hl1] using this
    rw [List.length_map] at q7
    by_cases hf : tb1.tooFull = true
    · first
        | (refine wpAny_bind ?_; refine wp_if_pos (by simp [hf]) ?_)
        | (refine wp_if_pos (by simp [hf]) ?_; refine wpAny_bind ?_)
      have full : (L.length + 1) * 5 ≥ tb1.mask * 3 := by
        have := hf
        simp only [SetTable.tooFull, decide_eq_true_eq, q7] at this
        exact this
      rw [hlen]
      have go : ∀ M, SetTable.sizeAbove (SetTable.grown (L.length + 1)) - 1 = M → Full M → (M = 7 ∨ M = 31 ∨ M = 127 ∨ M = 511) → SetTable.sizeAbove (SetTable.grown (L.length + 1)) ≤ 512 → (L.length + 1) * 5 < M * 3 →
          wpAny (model P w) A (setRelay ad (SetTable.grown (L.length + 1))) (fun _ s' => wpAny (model P w) A (pure true) Q E s') E { s with heap := h1 } := fun M a1 a2 a3 a4 a5 => by
        refine relay_B (s := { s with heap := h1 }) ho1 ⟨hex.1, hex.2.1, hex.2.2⟩ rfl rows1 (by rw [hnum, hn1]) q3.dum (by rw [hn1, q4]; have := R.msk; omega) nd1 are1 pl1 ld1 (by omega) a1 a2 a3 a4 (by rw [hl1]; exact a5) ?_
        intro h2 L2 en2 ep2 tb2 sb2 R2 pm2
        exact wpAny_pure (hQ true h2 L2 en2 ep2 tb2 (sb.trans sb2) R2 (fun z => absurd z hm) fun _ => pm2.trans pm)
      have cs : L.length = 4 ∨ L.length = 18 ∨ L.length = 76 := by
        rw [q4] at full
        rcases R.msk with e | e | e | e <;> rw [e] at full hgap <;> omega
      rcases cs with e | e | e
      · refine go 31 (by rw [e, size_20]) (full_of (.inr (.inl rfl))) (.inr (.inl rfl)) (by rw [e, size_20]; decide) (by omega)
      · refine go 127 (by rw [e, size_76]) (full_of (.inr (.inr rfl))) (.inr (.inr (.inl rfl))) (by rw [e, size_76]; decide) (by omega)
      · refine go 511 (by rw [e, size_308]) full511 (.inr (.inr (.inr rfl))) (by rw [e, size_308]; decide) (by omega)
    · have hroom : (L.length + 1) * 5 < tb1.mask * 3 := by
        have := hf
        simp only [SetTable.tooFull, decide_eq_true_eq, q7] at this
        omega
      first
        | refine wp_if_neg (by simp [hf]) ?_
        | (refine wpAny_bind ?_; refine wp_if_neg (by simp [hf]) ?_; refine wpAny_pure ?_)
      exact wpAny_pure (hQ true h1 L1 en1 (ep + 1) tb1 sb ⟨⟨_, ho1, ⟨hex.1, hex.2.1, hex.2.2⟩, rfl⟩, rows1, q3, by rw [q4]; exact R.msk, nd1, are1, pl1, ld1, by rw [hl1]; exact hroom, by omega⟩ (fun z => absurd z hm) fun _ => pm)
end
end DL
set_option maxHeartbeats 4000000
namespace DL
open PySem PySem.Spec PyProof.Rows L2
section
variable {P : Program} {w : World} {A : Around} {E : Value → Shared → Prop} {s : Shared}
theorem SetB.keep {h h' : Heap} {ad : Addr} {L : List (Addr × List Int)} {en : Array (Int × Value)} {ep : Nat} {tb : SetTable} (R : SetB P w h ad L en ep tb) (ha : ∀ o, h.get? ad = some o → h'.get? ad = some o) (ht : ∀ p ∈ L, L2.IsT P w h' p.2 p.1) : SetB P w h' ad L en ep tb := by
  obtain ⟨⟨o, ho, r⟩, row, tab, msk, one, are, pln, see, gap, few⟩ := R
  exact ⟨⟨o, ha o ho, r⟩, row, tab, msk, one, ht, pln, see, gap, few⟩
end
section
variable {X : Cx}
noncomputable def pk : List Int → Int × Int
  | [x, y] => (x, y)
  | _ => (0, 0)
end
end DL
namespace DL
open PySem PySem.Spec PyProof.Rows L2
/-- data: tuples and lists that stay as they are, by what is in them; lists that change, by their number in the store -/
inductive D where
  | non | bl (b : Bool) | int (i : Int) | str (x : Str) | tup (xs : List D) | lst (xs : List D) | ref (n : Nat)
  /-- the script -/
  | scr (xs : List D)
  /-- a tuple of numbers and texts that was made here: a key -/
  | key (ks : List L2.Key)
  /-- a tuple that was made here and has no attributes of its own: what dict() may walk -/
  | ptup (xs : List D)
inductive Cell where
  | lst (xs : List D)
  /-- a dict whose keys are tuples of numbers and texts -/
  | dct (kvs : List (List L2.Key × D))
  /-- a dict that is locked: a loop walks it -/
  | dlk (kvs : List (List L2.Key × D))
  /-- a dict whose keys are numbers and texts -/
  | dkk (kvs : List (L2.Key × D))
  | dkl (kvs : List (L2.Key × D))
  /-- a dict of states (each value True); the same, locked -/
  | sts (ks : List K3)
  | stl (ks : List K3)
  /-- a dict of tales (each value True) -/
  | tks (ts : List Tl)
  /-- an instance of the class of this name, its attributes -/
  | ins (cn : Str) (fs : List (Str × D))
  /-- a caught exception of the class of this name, its fields -/
  | exn (cn : Str) (ds : List D)
noncomputable abbrev DStore := List Cell
noncomputable abbrev DEnv := List (Option D)
noncomputable abbrev QE := D → DStore → Prop
noncomputable abbrev St := L2.St
section
variable (K : PySem.W.Frag) (H : Hp) (η μ : List Addr)
mutual
inductive RV : D → V → Prop
  | non : RV .non .non
  | bl (b : Bool) : RV (.bl b) (.bl b)
  | int (i : Int) : RV (.int i) (.int i)
  | str (x : Str) : RV (.str x) (.str x)
  | tup {a : Addr} {xs : List V} {ds : List D} : SqT K H a xs → RVs ds xs → RV (.tup ds) (.ref a)
  | lst {a : Addr} {xs : List V} {ds : List D} : a ∉ μ → a ∉ η → H a = some (.lst xs) → RVs ds xs → RV (.lst ds) (.ref a)
  | scr {a : Addr} {xs : List V} {ds : List D} : ((∃ o, H a = some (.frz o (.lst xs))) ∨ ∀ H', SqL K H' a xs) → RVs ds xs → RV (.scr ds) (.ref a)
  | ref {n : Nat} {a : Addr} : μ[n]? = some a → RV (.ref n) (.ref a)
  | key {a : Addr} {ks : List L2.Key} : H a = some (.tup (ks.map kV)) → RV (.key ks) (.ref a)
  | ptup {a : Addr} {o : Obj} {xs : List V} {ds : List D} : H a = some (.frz o (.tup xs)) → o.dict = none → RVs ds xs → RV (.ptup ds) (.ref a)
inductive RVs : List D → List V → Prop
  | nil : RVs [] []
  | cons {d : D} {v : V} {ds : List D} {vs : List V} : RV d v → RVs ds vs → RVs (d :: ds) (v :: vs)
end
end
/-- no table of code objects -/
noncomputable def NT (o : HO) : Prop := ∀ ps, o ≠ .tbl ps
theorem nt_lst {xs : List V} : NT (.lst xs) := fun _ z => nomatch z
theorem nt_dK {xs : List (L2.Key × V)} : NT (.dK xs) := fun _ z => nomatch z
/-- values stay what they are -/
structure Ext (η μ : List Addr) (H : Hp) (η' μ' : List Addr) (H' : Hp) : Prop where
  pre : ∃ more, μ' = μ ++ more
  keep : ∀ a o, NT o → H a = some o → a ∉ μ → a ∉ η → H' a = some o ∧ a ∉ μ' ∧ a ∉ η'
  tup : ∀ a xs, H a = some (.tup xs) → H' a = some (.tup xs)
  frz : ∀ a o u, H a = some (.frz o u) → H' a = some (.frz o u)
/-- what evaluation does: hidden things stay -/
structure Grow (μ : List Addr) (H : Hp) (μ' : List Addr) (H' : Hp) : Prop where
  pre : ∃ more, μ' = μ ++ more
  keep : ∀ a o, NT o → H a = some o → a ∉ μ → H' a = some o ∧ a ∉ μ'
  tup : ∀ a xs, H a = some (.tup xs) → H' a = some (.tup xs)
  frz : ∀ a o u, H a = some (.frz o u) → H' a = some (.frz o u)
section
variable {K : PySem.W.Frag} {H H' H1 H2 : Hp} {η η' η1 η2 μ μ' μ1 μ2 : List Addr}
theorem Grow.refl : Grow μ H μ H := ⟨⟨[], by simp⟩, fun a o _ h n => ⟨h, n⟩, fun _ _ h => h, fun _ _ _ h => h⟩
theorem Grow.trans (a : Grow μ H μ1 H1) (b : Grow μ1 H1 μ2 H2) : Grow μ H μ2 H2 :=
  ⟨by obtain ⟨m, rfl⟩ := a.pre; obtain ⟨n, rfl⟩ := b.pre; exact ⟨m ++ n, by simp⟩,
   fun c o t h n => b.keep c o t (a.keep c o t h n).1 (a.keep c o t h n).2, fun c xs h => b.tup c xs (a.tup c xs h), fun c o u h => b.frz c o u (a.frz c o u h)⟩
theorem Ext.refl : Ext η μ H η μ H := ⟨⟨[], by simp⟩, fun a o _ h n m => ⟨h, n, m⟩, fun _ _ h => h, fun _ _ _ h => h⟩
theorem Ext.trans (a : Ext η μ H η1 μ1 H1) (b : Ext η1 μ1 H1 η2 μ2 H2) : Ext η μ H η2 μ2 H2 :=
  ⟨by obtain ⟨m, rfl⟩ := a.pre; obtain ⟨n, rfl⟩ := b.pre; exact ⟨m ++ n, by simp⟩,
   fun c o t h n m => b.keep c o t (a.keep c o t h n m).1 (a.keep c o t h n m).2.1 (a.keep c o t h n m).2.2, fun c xs h => b.tup c xs (a.tup c xs h), fun c o u h => b.frz c o u (a.frz c o u h)⟩
theorem Grow.ext (g : Grow μ H μ' H') : Ext η μ H η μ' H' :=
  ⟨g.pre, fun a o t h n m => ⟨(g.keep a o t h n).1, (g.keep a o t h n).2, m⟩, g.tup, g.frz⟩
theorem SqT.ext (e : Ext η μ H η' μ' H') {a : Addr} {xs : List V} (h : SqT K H a xs) : SqT K H' a xs := by
  rcases h with (h | ⟨o, h⟩) | h
  · exact .inl (.inl (e.tup _ _ h))
  · exact .inl (.inr ⟨o, e.frz _ _ _ h⟩)
  · exact .inr h
mutual
theorem RV.ext (e : Ext η μ H η' μ' H') : ∀ {d : D} {v : V}, RV K H η μ d v → RV K H' η' μ' d v
  | _, _, .non => .non
  | _, _, .bl b => .bl b
  | _, _, .int i => .int i
  | _, _, .str x => .str x
  | _, _, .tup h r => .tup (SqT.ext e h) (RVs.ext e r)
  | _, _, .lst hm hn h r => .lst (e.keep _ _ nt_lst h hm hn).2.1 (e.keep _ _ nt_lst h hm hn).2.2 (e.keep _ _ nt_lst h hm hn).1 (RVs.ext e r)
  | _, _, .scr h r => .scr (h.imp (fun ⟨o, z⟩ => ⟨o, e.frz _ _ _ z⟩) id) (RVs.ext e r)
  | _, _, .ref h => .ref (by
      obtain ⟨m, rfl⟩ := e.pre
      rw [List.getElem?_append_left (List.getElem?_eq_some_iff.mp h).1]; exact h)
  | _, _, .key h => .key (e.tup _ _ h)
  | _, _, .ptup h h2 r => .ptup (e.frz _ _ _ h) h2 (RVs.ext e r)
theorem RVs.ext (e : Ext η μ H η' μ' H') : ∀ {ds : List D} {vs : List V}, RVs K H η μ ds vs → RVs K H' η' μ' ds vs
  | _, _, .nil => .nil
  | _, _, .cons h r => .cons (RV.ext e h) (RVs.ext e r)
end
theorem RVs.length : ∀ {ds : List D} {vs : List V}, RVs K H η μ ds vs → ds.length = vs.length
  | _, _, .nil => rfl
  | _, _, .cons _ r => by simp [RVs.length r]
theorem RVs.get : ∀ {ds : List D} {vs : List V} {i : Nat} {d : D}, RVs K H η μ ds vs → ds[i]? = some d → ∃ v, vs[i]? = some v ∧ RV K H η μ d v
  | _, _, _, _, .nil, e => by simp at e
  | _, _, 0, _, .cons r _, e => by simp at e; subst e; exact ⟨_, rfl, r⟩
  | _, _, i + 1, d, .cons _ t, e => by
    obtain ⟨v, h1, h2⟩ := RVs.get (i := i) (d := d) t (by simpa using e)
    exact ⟨v, by simpa using h1, h2⟩
theorem RVs.append : ∀ {ds es : List D} {vs ws : List V}, RVs K H η μ ds vs → RVs K H η μ es ws → RVs K H η μ (ds ++ es) (vs ++ ws)
  | _, _, _, _, .nil, s => s
  | _, _, _, _, .cons r t, s => .cons r (RVs.append t s)
theorem RVs.set {d : D} {v : V} (r : RV K H η μ d v) : ∀ {ds : List D} {vs : List V} (i : Nat), RVs K H η μ ds vs → RVs K H η μ (ds.set i d) (vs.set i v)
  | _, _, _, .nil => .nil
  | _, _, 0, .cons _ t => .cons r t
  | _, _, i + 1, .cons q t => .cons q (RVs.set r i t)
theorem RVs.take : ∀ {ds : List D} {vs : List V} (n : Nat), RVs K H η μ ds vs → RVs K H η μ (ds.take n) (vs.take n)
  | _, _, 0, _ => by simpa using .nil
  | _, _, _ + 1, .nil => .nil
  | _, _, n + 1, .cons r t => .cons r (RVs.take n t)
theorem RVs.drop : ∀ {ds : List D} {vs : List V} (n : Nat), RVs K H η μ ds vs → RVs K H η μ (ds.drop n) (vs.drop n)
  | _, _, 0, r => r
  | _, _, _ + 1, .nil => .nil
  | _, _, n + 1, .cons _ t => RVs.drop n t
/-- the environment -/
structure RE (K : PySem.W.Frag) (H : Hp) (η μ : List Addr) (ρ : DEnv) (σ : St) : Prop where
  len : ρ.length = σ.length
  get : ∀ (i : Nat) (d : D), ρ[i]? = some (some d) → ∃ v, σ[i]? = some (some v) ∧ RV K H η μ d v
theorem RE.ext (e : Ext η μ H η' μ' H') {ρ : DEnv} {σ : St} (r : RE K H η μ ρ σ) : RE K H' η' μ' ρ σ :=
  ⟨r.len, fun i d h => let ⟨v, a, b⟩ := r.get i d h; ⟨v, a, b.ext e⟩⟩
theorem RE.set {ρ : DEnv} {σ : St} (r : RE K H η μ ρ σ) {d : D} {v : V} (h : RV K H η μ d v) (i : Nat) : RE K H η μ (ρ.set i (some d)) (σ.set i (some v)) := by
  refine ⟨by simp [r.len], fun j e q => ?_⟩
  by_cases hj : i = j
  · subst hj
    have hl : i < ρ.length := by
      have := (List.getElem?_eq_some_iff.mp q).1
      simpa using this
    rw [List.getElem?_set_self hl] at q
    cases q
    exact ⟨v, by rw [List.getElem?_set_self (by rw [← r.len]; exact hl)], h⟩
  · rw [List.getElem?_set_ne hj] at q ⊢
    exact r.get j e q
theorem RE.del {ρ : DEnv} {σ : St} (r : RE K H η μ ρ σ) (i : Nat) : RE K H η μ (ρ.set i none) (σ.set i none) := by
  refine ⟨by simp [r.len], fun j e q => ?_⟩
  by_cases hj : i = j
  · subst hj
    have hl : i < ρ.length := by
      have := (List.getElem?_eq_some_iff.mp q).1
      simpa using this
    rw [List.getElem?_set_self hl] at q
    cases q
  · rw [List.getElem?_set_ne hj] at q ⊢
    exact r.get j e q
/-- the pairs of a dict -/
inductive RKs {κ : Type} (K : PySem.W.Frag) (H : Hp) (η μ : List Addr) : List (κ × D) → List (κ × V) → Prop
  | nil : RKs K H η μ [] []
  | cons {k : κ} {d : D} {v : V} {ds : List (κ × D)} {vs : List (κ × V)} : RV K H η μ d v → RKs K H η μ ds vs → RKs K H η μ ((k, d) :: ds) ((k, v) :: vs)
theorem RKs.ext {κ : Type} (e : Ext η μ H η' μ' H') : ∀ {ds : List (κ × D)} {vs : List (κ × V)}, RKs K H η μ ds vs → RKs K H' η' μ' ds vs
  | _, _, .nil => .nil
  | _, _, .cons h r => .cons (h.ext e) (RKs.ext e r)
theorem Ks3.ext (e : Ext η μ H η' μ' H') {xs : List (K3 × Addr)} (h : Ks3 K H xs) : Ks3 K H' xs := fun x hx => SqT.ext e (h x hx)
theorem TlV.ext (e : Ext η μ H η' μ' H') {b : Addr} {t : Tl} (h : TlV K H b t) : TlV K H' b t := by
  obtain ⟨qs, h1, h2⟩ := h
  refine ⟨qs, SqT.ext e h1, ?_⟩
  clear h1
  induction h2 with
  | nil => exact .nil
  | cons a _ ih => exact .cons (SqT.ext e a) ih
theorem KsT.ext (e : Ext η μ H η' μ' H') {xs : List (Tl × Addr)} (h : KsT K H xs) : KsT K H' xs := fun x hx => (h x hx).ext e
/-- the fields of an exception's class -/
noncomputable def xfld (c : Str) : List Str := if c = "NoPlan" then ["leg"] else if c = "NoRead" then ["wheel"] else if c = "NoTale" then ["end"] else if c = "NoText" then ["row"] else if c = "NoLine" then ["line"] else if c = "NoWheel" then ["wheel"] else if c = "NoBeat" then ["when"] else []
noncomputable def xnm : List Str := ["NoPlan", "NoRead", "NoText", "NoLine", "NoTale", "NoWay", "NoWheel", "NoBeat", "Done"]
/-- isinstance of an exception of the class c: the names of classes that say yes -/
noncomputable def isX (c x : Str) : Bool := x == c || ((["NoText", "NoLine", "NoPlan", "NoRead"] : List Str).contains c && (x == ("NotSuch" : Str) || x == ("ValueError" : Str))) || ((["NoTale", "NoWay", "NoWheel", "NoBeat", "Done"] : List Str).contains c && (x == ("Lost" : Str) || x == ("LookupError" : Str)))
/-- at a: an exception of the class at C that was caught, its dict (none | at d) -/
noncomputable def exk (a C : Addr) (d : Option Addr) : HO := .ext fun h => ∃ (oe : Obj) (vs : Array Value), h.get? a = some oe ∧ Zc (.ref C) d oe ∧ oe.data = .fields vs
theorem exk_ok {P : Program} {w : World} {H : Hp} {h : Heap} {a C : Addr} {d : Option Addr} {oe : Obj} {vs : Array Value} (e : h.get? a = some oe) (z : Zc (.ref C) d oe) (hd : oe.data = .fields vs) : ObjOk P w H h a (exk a C d) :=
  ⟨⟨oe, vs, e, z, hd⟩, ⟨oe, e⟩, fun _ _ ⟨o, v, q, r⟩ k => ⟨o, v, k o q, r⟩⟩
/-- how the fields of a caught exception stand -/
noncomputable def XFk (c : Str) (vs : List V) (d : Option Addr) (H : Hp) (η μ : List Addr) : Prop := (xfld c = [] ∧ vs = [] ∧ d = none) ∨ ∃ f v dx, xfld c = [f] ∧ vs = [v] ∧ d = some dx ∧ H dx = some (.xd [(f, v)]) ∧ dx ∉ μ ∧ dx ∉ η
theorem XFk.ext (e : Ext η μ H η' μ' H') {c : Str} {vs : List V} {d : Option Addr} (h : XFk c vs d H η μ) : XFk c vs d H' η' μ' := by
  rcases h with h | ⟨f, v, dx, h1, h2, h3, h4, h5, h6⟩
  · exact .inl h
  · obtain ⟨k1, k2, k3⟩ := e.keep dx (.xd [(f, v)]) (fun ps z => by cases z) h4 h5 h6
    exact .inr ⟨f, v, dx, h1, h2, h3, k1, k2, k3⟩
noncomputable def COk (K : PySem.W.Frag) (H : Hp) (η μ : List Addr) : Cell → Option HO → Addr → Prop
  | .lst ds, o, _ => ∃ vs, o = some (.lst vs) ∧ RVs K H η μ ds vs
  | .dct ds, o, _ => ∃ vs, o = some (.dT vs) ∧ RKs K H η μ ds vs
  | .dlk ds, o, _ => ∃ ob vs, o = some (.frz ob (.dT vs)) ∧ RKs K H η μ ds vs
  | .dkk ds, o, _ => ∃ vs, o = some (.dK vs) ∧ RKs K H η μ ds vs
  | .dkl ds, o, _ => ∃ ob vs, o = some (.frz ob (.dK vs)) ∧ RKs K H η μ ds vs
  | .sts ks, o, a => ∃ xs, o = some (StD a xs) ∧ xs.map (·.1) = ks ∧ Ks3 K H xs
  | .stl ks, o, a => ∃ ob xs, o = some (.frz ob (StD a xs)) ∧ xs.map (·.1) = ks ∧ Ks3 K H xs
  | .tks ts, o, a => ∃ xs, o = some (TlD a xs) ∧ (∀ t, t ∈ ts ↔ t ∈ xs.map (·.1)) ∧ KsT K H xs
  | .ins cn fs, o, _ => ∃ C dx vs, PySem.W.nsIn K mainGlobals cn = some (some (.ref C)) ∧ o = some (.ins C dx vs) ∧ RKs K H η μ fs vs
  | .exn cn ds, o, a => ∃ C d vs, PySem.W.nsIn K mainGlobals cn = some (some (.ref C)) ∧ o = some (exk a C d) ∧ RVs K H η μ ds vs ∧ cn ∈ xnm ∧ XFk cn vs d H η μ
theorem COk.ext (e : Ext η μ H η' μ' H') {c : Cell} {o : Option HO} {a : Addr} (h : COk K H η μ c o a) : COk K H' η' μ' c o a := by
  cases c with
  | lst ds => obtain ⟨vs, a, b⟩ := h; exact ⟨vs, a, b.ext e⟩
  | dct ds => obtain ⟨vs, a, b⟩ := h; exact ⟨vs, a, b.ext e⟩
  | dlk ds => obtain ⟨ob, vs, a, b⟩ := h; exact ⟨ob, vs, a, b.ext e⟩
  | dkk ds => obtain ⟨vs, a, b⟩ := h; exact ⟨vs, a, b.ext e⟩
  | dkl ds => obtain ⟨ob, vs, a, b⟩ := h; exact ⟨ob, vs, a, b.ext e⟩
  | sts ks => obtain ⟨xs, a, b, c⟩ := h; exact ⟨xs, a, b, c.ext e⟩
  | stl ks => obtain ⟨ob, xs, a, b, c⟩ := h; exact ⟨ob, xs, a, b, c.ext e⟩
  | tks ks => obtain ⟨xs, a, b, c⟩ := h; exact ⟨xs, a, b, c.ext e⟩
  | ins cn fs => obtain ⟨C, dx, vs, a, b, c⟩ := h; exact ⟨C, dx, vs, a, b, c.ext e⟩
  | exn cn ds => obtain ⟨C, d, vs, a, b, c, m, x⟩ := h; exact ⟨C, d, vs, a, b, c.ext e, m, x.ext e⟩
theorem COk.isSome {c : Cell} {o : Option HO} {a : Addr} (h : COk K H η μ c o a) : o ≠ none := by
  cases c with
  | lst ds => obtain ⟨vs, rfl, b⟩ := h; exact fun z => nomatch z
  | dct ds => obtain ⟨vs, rfl, b⟩ := h; exact fun z => nomatch z
  | dlk ds => obtain ⟨ob, vs, rfl, b⟩ := h; exact fun z => nomatch z
  | dkk ds => obtain ⟨vs, rfl, b⟩ := h; exact fun z => nomatch z
  | dkl ds => obtain ⟨ob, vs, rfl, b⟩ := h; exact fun z => nomatch z
  | sts ks => obtain ⟨xs, rfl, b⟩ := h; exact fun z => nomatch z
  | stl ks => obtain ⟨ob, xs, rfl, b⟩ := h; exact fun z => nomatch z
  | tks ks => obtain ⟨xs, rfl, b⟩ := h; exact fun z => nomatch z
  | ins cn fs => obtain ⟨C, dx, vs, _, rfl, b⟩ := h; exact fun z => nomatch z
  | exn cn ds => obtain ⟨C, d, vs, _, rfl, b⟩ := h; exact fun z => nomatch z
theorem COk.notTup {c : Cell} {xs : List V} {a : Addr} (h : COk K H η μ c (some (.tup xs)) a) : False := by
  cases c with
  | lst ds => obtain ⟨vs, e, b⟩ := h; cases e
  | dct ds => obtain ⟨vs, e, b⟩ := h; cases e
  | dlk ds => obtain ⟨ob, vs, e, b⟩ := h; cases e
  | dkk ds => obtain ⟨vs, e, b⟩ := h; cases e
  | dkl ds => obtain ⟨ob, vs, e, b⟩ := h; cases e
  | sts ks => obtain ⟨xs, e, b⟩ := h; cases e
  | stl ks => obtain ⟨ob, xs, e, b⟩ := h; cases e
  | tks ks => obtain ⟨xs, e, b⟩ := h; cases e
  | ins cn fs => obtain ⟨C, dx, vs, _, e, b⟩ := h; cases e
  | exn cn ds => obtain ⟨C, d, vs, _, e, b⟩ := h; cases e
/-- the tables of code objects that are tracked: the one of the def that makes a lambda -/
noncomputable def lamQ : Str := "next_pace.<locals>.<lambda>"
noncomputable def tbs (K : PySem.W.Frag) : List Addr := match PySem.W.tabIn K "next_pace" with
  | some (_, P) => [P]
  | none => []
/-- a table: each code object in it bears the lambda's name, and is in no cell -/
structure TabX (η μ : List Addr) (H : Hp) (P : Addr) : Prop where
  m : P ∉ μ
  n : P ∉ η
  t : ∃ ps : Array Value, H P = some (.tbl ps) ∧ TriplesOk ps.toList ∧ ∀ (pos : Pos) (cv : Value), codeAmong pos ps.toList = some cv → ∃ c, cv = .ref c ∧ H c = some (LamX.CodeO c lamQ) ∧ c ∉ μ ∧ c ∉ η
/-- whatever is in no cell and not hidden stays so -/
noncomputable def KpX (η μ : List Addr) (H : Hp) (η' μ' : List Addr) (H' : Hp) : Prop := ∀ a o, H a = some o → a ∉ μ → a ∉ η → H' a = some o ∧ a ∉ μ' ∧ a ∉ η'
theorem TabX.of {P : Addr} (t : TabX η μ H P) (k : KpX η μ H η' μ' H') : TabX η' μ' H' P := by
  obtain ⟨m, n, ps, h1, h2, h3⟩ := t
  obtain ⟨k1, k2, k3⟩ := k P _ h1 m n
  refine ⟨k2, k3, ps, k1, h2, fun pos cv hc => ?_⟩
  obtain ⟨c, e, h4, h5, h6⟩ := h3 pos cv hc
  obtain ⟨j1, j2, j3⟩ := k c _ h4 h5 h6
  exact ⟨c, e, j1, j2, j3⟩
structure Rp (K : PySem.W.Frag) (η μ : List Addr) (S : DStore) (H : Hp) : Prop where
  len : μ.length = S.length
  nodup : μ.Nodup
  cell : ∀ (n : Nat) (c : Cell), S[n]? = some c → ∃ a, μ[n]? = some a ∧ COk K H η μ c (H a) a
  hid : ∀ a ∈ η, a ∉ μ ∧ H a ≠ none ∧ (∀ xs, H a ≠ some (.tup xs)) ∧ ∀ o u, H a ≠ some (.frz o u)
  tb : ∀ P ∈ tbs K, TabX η μ H P
theorem Rp.at (r : Rp K η μ S H) {a : Addr} (h : a ∈ μ) : ∃ (n : Nat) (c : Cell), S[n]? = some c ∧ μ[n]? = some a ∧ COk K H η μ c (H a) a := by
  obtain ⟨n, hn, e⟩ := List.getElem_of_mem h
  have hn' : n < S.length := by rw [← r.len]; exact hn
  obtain ⟨b, hb, hc⟩ := r.cell n S[n] (List.getElem?_eq_getElem hn')
  have : b = a := by
    rw [List.getElem?_eq_getElem hn] at hb
    cases hb; exact e
  subst this
  exact ⟨n, S[n], List.getElem?_eq_getElem hn', hb, hc⟩
theorem Rp.fresh {S : DStore} (r : Rp K η μ S H) {p : Addr} (h : H p = none) : p ∉ μ ∧ p ∉ η :=
  ⟨fun z => let ⟨_, _, _, _, c⟩ := r.at z; c.isSome h, fun z => (r.hid p z).2.1 h⟩
theorem grow_new {S : DStore} (r : Rp K η μ S H) {p : Addr} {o : HO} (h : H p = none) : Grow μ H μ (upd H p o) :=
  ⟨⟨[], by simp⟩, fun a u _ e n => ⟨by rw [upd_ne (ne_of_none e h)]; exact e, n⟩, fun a xs e => by rw [upd_ne (ne_of_none e h)]; exact e, fun a u w e => by rw [upd_ne (ne_of_none e h)]; exact e⟩
theorem kx_new {p : Addr} {o : HO} (h : H p = none) : KpX η μ H η μ (upd H p o) := fun a u e n m => ⟨by rw [upd_ne (ne_of_none e h)]; exact e, n, m⟩
theorem kx_cell {p : Addr} {o : HO} (h : H p = none) : KpX η μ H η (μ ++ [p]) (upd H p o) := fun a u e n m => ⟨by rw [upd_ne (ne_of_none e h)]; exact e, fun z => by
    rcases List.mem_append.mp z with z | z
    · exact n z
    · exact ne_of_none e h (by simpa using z), m⟩
theorem kx_set {a : Addr} {o : HO} (hm : a ∈ μ) : KpX η μ H η μ (upd H a o) := fun b u e n m => ⟨by rw [upd_ne (fun z => n (by rw [z]; exact hm))]; exact e, n, m⟩
theorem kx_hide {p : Addr} {o : HO} (h : H p = none) : KpX η μ H (p :: η) μ (upd H p o) := fun a u e n m => ⟨by rw [upd_ne (ne_of_none e h)]; exact e, n, fun z => by
    rcases List.mem_cons.mp z with z | z
    · exact ne_of_none e h z
    · exact m z⟩
theorem kx_hset {p : Addr} {o : HO} : KpX (p :: η) μ H (p :: η) μ (upd H p o) := fun a u e n m => ⟨by rw [upd_ne (fun z => m (by simp [z]))]; exact e, n, m⟩
theorem kx_show {p : Addr} : KpX (p :: η) μ H η μ H := fun a o h n m => ⟨h, n, fun z => m (by simp [z])⟩
theorem kx_showC {p : Addr} : KpX (p :: η) μ H η (μ ++ [p]) H := fun a o h n m => ⟨h, fun z => by
    rcases List.mem_append.mp z with z | z
    · exact n z
    · exact m (by simp at z; simp [z]), fun z => m (by simp [z])⟩
/-- a new thing that is not in the store -/
theorem rp_new {S : DStore} (r : Rp K η μ S H) {p : Addr} {o : HO} (h : H p = none) : Rp K η μ S (upd H p o) := by
  have g := (grow_new (o := o) r h).ext (η := η)
  have f := r.fresh h
  refine ⟨r.len, r.nodup, fun n c e => ?_, fun a ha => ?_, fun P hP => (r.tb P hP).of (kx_new h)⟩
  · obtain ⟨a, ha, hc⟩ := r.cell n c e
    have : a ≠ p := fun z => f.1 (z ▸ List.mem_of_getElem? ha)
    exact ⟨a, ha, by rw [upd_ne this]; exact hc.ext g⟩
  · have : a ≠ p := fun z => f.2 (z ▸ ha)
    rw [upd_ne this]; exact r.hid a ha
theorem rv_new_lst {S : DStore} (r : Rp K η μ S H) {p : Addr} {ds : List D} {vs : List V} (h : H p = none) (q : RVs K H η μ ds vs) : RV K (upd H p (.lst vs)) η μ (.lst ds) (.ref p) :=
  .lst (r.fresh h).1 (r.fresh h).2 upd_same (q.ext (grow_new r h).ext)
theorem rv_new_tup {S : DStore} (r : Rp K η μ S H) {p : Addr} {ds : List D} {vs : List V} (h : H p = none) (q : RVs K H η μ ds vs) : RV K (upd H p (.tup vs)) η μ (.tup ds) (.ref p) :=
  .tup (.inl (.inl upd_same)) (q.ext (grow_new r h).ext)
/-- a new list in the store -/
theorem grow_cell {S : DStore} (r : Rp K η μ S H) {p : Addr} {o : HO} (h : H p = none) : Grow μ H (μ ++ [p]) (upd H p o) :=
  ⟨⟨[p], rfl⟩, fun a u _ e n => ⟨by rw [upd_ne (ne_of_none e h)]; exact e, fun z => by
    rcases List.mem_append.mp z with z | z
    · exact n z
    · exact ne_of_none e h (by simpa using z)⟩, fun a xs e => by rw [upd_ne (ne_of_none e h)]; exact e, fun a u w e => by rw [upd_ne (ne_of_none e h)]; exact e⟩
theorem rp_cellC {S : DStore} (r : Rp K η μ S H) {p : Addr} {o : HO} {c : Cell} (h : H p = none) (q : COk K (upd H p o) η (μ ++ [p]) c (some o) p) : Rp K η (μ ++ [p]) (S ++ [c]) (upd H p o) := by
  have g := (grow_cell (o := o) r h).ext (η := η)
  have f := r.fresh h
  refine ⟨by simp [r.len], ?_, fun n c' e => ?_, fun a ha => ?_, fun P hP => (r.tb P hP).of (kx_cell h)⟩
  · rw [List.nodup_append]
    exact ⟨r.nodup, by simp, fun a ha b hb => by simp at hb; subst hb; exact fun z => f.1 (z ▸ ha)⟩
  · by_cases hn : n < S.length
    · rw [List.getElem?_append_left hn] at e
      obtain ⟨a, ha, hc⟩ := r.cell n c' e
      have : a ≠ p := fun z => f.1 (z ▸ List.mem_of_getElem? ha)
      refine ⟨a, by rw [List.getElem?_append_left (by rw [r.len]; exact hn)]; exact ha, by rw [upd_ne this]; exact hc.ext g⟩
    · have hn' : n = S.length := by
        have := (List.getElem?_eq_some_iff.mp e).1
        simp at this
        omega
      subst hn'
      simp at e
      subst e
      exact ⟨p, by rw [← r.len]; simp, by rw [upd_same]; exact q⟩
  · have : a ≠ p := fun z => f.2 (z ▸ ha)
    have q := r.hid a ha
    rw [upd_ne this]
    exact ⟨fun z => by
      rcases List.mem_append.mp z with z | z
      · exact q.1 z
      · exact this (by simpa using z), q.2⟩
theorem rp_cell {S : DStore} (r : Rp K η μ S H) {p : Addr} {ds : List D} {vs : List V} (h : H p = none) (q : RVs K H η μ ds vs) : Rp K η (μ ++ [p]) (S ++ [.lst ds]) (upd H p (.lst vs)) :=
  rp_cellC r h ⟨vs, rfl, q.ext ((grow_cell (o := .lst vs) r h).ext (η := η))⟩
theorem rp_cellD {S : DStore} (r : Rp K η μ S H) {p : Addr} {ds : List (List L2.Key × D)} {vs : List (List L2.Key × V)} (h : H p = none) (q : RKs K H η μ ds vs) : Rp K η (μ ++ [p]) (S ++ [.dct ds]) (upd H p (.dT vs)) :=
  rp_cellC r h ⟨vs, rfl, q.ext ((grow_cell (o := .dT vs) r h).ext (η := η))⟩
theorem rv_cell {S : DStore} (r : Rp K η μ S H) {p : Addr} {H' : Hp} : RV K H' η (μ ++ [p]) (.ref S.length) (.ref p) := .ref (by rw [← r.len]; simp)
/-- a cell is changed -/
theorem grow_set {S : DStore} (r : Rp K η μ S H) {a : Addr} {n : Nat} {o u0 : HO} (h : μ[n]? = some a) (e0 : H a = some u0) (nf : ∀ o u, u0 ≠ .frz o u := by intro _ _ z; cases z) : Grow μ H μ (upd H a o) := by
  have hm : a ∈ μ := List.mem_of_getElem? h
  obtain ⟨_, c, _, _, hc⟩ := r.at hm
  refine ⟨⟨[], by simp⟩, fun b u _ e n => ⟨?_, n⟩, fun b xs e => ?_, fun b u w e => ?_⟩
  · have ne : b ≠ a := fun z => n (by rw [z]; exact hm)
    rw [upd_ne ne]; exact e
  · rw [upd_ne (fun z => by subst z; rw [e] at hc; exact hc.notTup)]; exact e
  · rw [upd_ne (fun z => by subst z; rw [e0] at e; cases e; exact nf _ _ rfl)]; exact e
/-- a cell holds another thing -/
theorem rp_setC {S : DStore} (r : Rp K η μ S H) {a : Addr} {n : Nat} {c' : Cell} {o : HO} (h : μ[n]? = some a) (g : ∀ c b, b ≠ a → COk K H η μ c (H b) b → COk K (upd H a o) η μ c (H b) b) (q : COk K (upd H a o) η μ c' (some o) a) : Rp K η μ (S.set n c') (upd H a o) := by
  refine ⟨by simp [r.len], r.nodup, fun m c e => ?_, fun b hb => ?_, fun P hP => (r.tb P hP).of (kx_set (List.mem_of_getElem? h))⟩
  · by_cases hm : n = m
    · subst hm
      have hl : n < S.length := by
        have := (List.getElem?_eq_some_iff.mp e).1
        simpa using this
      rw [List.getElem?_set_self hl] at e
      cases e
      exact ⟨a, h, by rw [upd_same]; exact q⟩
    · rw [List.getElem?_set_ne hm] at e
      obtain ⟨b, hb, hc⟩ := r.cell m c e
      have : b ≠ a := fun z => by
        subst z
        exact hm ((List.getElem?_inj (List.getElem?_eq_some_iff.mp h).1 r.nodup).mp (h.trans hb.symm))
      exact ⟨b, hb, by rw [upd_ne this]; exact g c b this hc⟩
  · have : b ≠ a := fun z => (r.hid b hb).1 (z ▸ List.mem_of_getElem? h)
    rw [upd_ne this]; exact r.hid b hb
theorem rp_set {S : DStore} (r : Rp K η μ S H) {a : Addr} {n : Nat} {ds : List D} {vs : List V} {u0 : HO} (h : μ[n]? = some a) (e0 : H a = some u0) (q : RVs K H η μ ds vs) (nf : ∀ o u, u0 ≠ .frz o u := by intro _ _ z; cases z) : Rp K η μ (S.set n (.lst ds)) (upd H a (.lst vs)) := by
  have g := (grow_set (o := .lst vs) r h e0 nf).ext (η := η)
  exact rp_setC r h (fun c b _ hc => hc.ext g) ⟨vs, rfl, q.ext g⟩
theorem rp_setD {S : DStore} (r : Rp K η μ S H) {a : Addr} {n : Nat} {ds : List (List L2.Key × D)} {vs : List (List L2.Key × V)} {u0 : HO} (h : μ[n]? = some a) (e0 : H a = some u0) (q : RKs K H η μ ds vs) (nf : ∀ o u, u0 ≠ .frz o u := by intro _ _ z; cases z) : Rp K η μ (S.set n (.dct ds)) (upd H a (.dT vs)) := by
  have g := (grow_set (o := .dT vs) r h e0 nf).ext (η := η)
  exact rp_setC r h (fun c b _ hc => hc.ext g) ⟨vs, rfl, q.ext g⟩
theorem rp_lock {S : DStore} (r : Rp K η μ S H) {a : Addr} {n : Nat} {ds : List (List L2.Key × D)} {vs : List (List L2.Key × V)} {ob : Obj} (h : μ[n]? = some a) (e0 : H a = some (.dT vs)) (q : RKs K H η μ ds vs) : Rp K η μ (S.set n (.dlk ds)) (upd H a (.frz ob (.dT vs))) := by
  have g := (grow_set (o := .frz ob (.dT vs)) r h e0).ext (η := η)
  exact rp_setC r h (fun c b _ hc => hc.ext g) ⟨ob, vs, rfl, q.ext g⟩
theorem rp_setK {S : DStore} (r : Rp K η μ S H) {a : Addr} {n : Nat} {ds : List (L2.Key × D)} {vs : List (L2.Key × V)} {u0 : HO} (h : μ[n]? = some a) (e0 : H a = some u0) (q : RKs K H η μ ds vs) (nf : ∀ o u, u0 ≠ .frz o u := by intro _ _ z; cases z) : Rp K η μ (S.set n (.dkk ds)) (upd H a (.dK vs)) := by
  have g := (grow_set (o := .dK vs) r h e0 nf).ext (η := η)
  exact rp_setC r h (fun c b _ hc => hc.ext g) ⟨vs, rfl, q.ext g⟩
section unlock
variable {a : Addr} {ob : Obj} {u o : HO}
/-- what a lock holds: no tuple, no list -/
structure Lk (u : HO) : Prop where
  t : ∀ xs, u ≠ .tup xs
  l : ∀ xs, u ≠ .lst xs
theorem lkT {vs : List (List L2.Key × V)} : Lk (.dT vs) := ⟨(fun _ z => nomatch z), (fun _ z => nomatch z)⟩
theorem sqt_un {b : Addr} {xs : List V} (lk : Lk u) (e0 : H a = some (.frz ob u)) (h : SqT K H b xs) : SqT K (upd H a o) b xs := by
  rcases h with (h | ⟨o', h⟩) | h
  · exact .inl (.inl (by rw [upd_ne (fun z => by rw [z, e0] at h; cases h)]; exact h))
  · exact .inl (.inr ⟨o', by rw [upd_ne (fun z => by rw [z, e0] at h; cases h; exact lk.t _ rfl)]; exact h⟩)
  · exact .inr h
mutual
theorem RV.un (lk : Lk u) (hm : a ∈ μ) (e0 : H a = some (.frz ob u)) : ∀ {d : D} {v : V}, RV K H η μ d v → RV K (upd H a o) η μ d v
  | _, _, .non => .non
  | _, _, .bl b => .bl b
  | _, _, .int i => .int i
  | _, _, .str x => .str x
  | _, _, .tup h r => .tup (sqt_un lk e0 h) (RVs.un lk hm e0 r)
  | _, _, .lst h1 h2 h r => .lst h1 h2 (by rw [upd_ne (fun z => h1 (by rw [z]; exact hm))]; exact h) (RVs.un lk hm e0 r)
  | _, _, .scr h r => .scr (h.imp (fun ⟨o, z⟩ => ⟨o, by rw [upd_ne (fun y => by rw [y, e0] at z; cases z; exact lk.l _ rfl)]; exact z⟩) id) (RVs.un lk hm e0 r)
  | _, _, .ref h => .ref h
  | _, _, .key h => .key (by rw [upd_ne (fun z => by rw [z, e0] at h; cases h)]; exact h)
  | _, _, .ptup h h2 r => .ptup (by rw [upd_ne (fun z => by rw [z, e0] at h; cases h; exact lk.t _ rfl)]; exact h) h2 (RVs.un lk hm e0 r)
theorem RVs.un (lk : Lk u) (hm : a ∈ μ) (e0 : H a = some (.frz ob u)) : ∀ {ds : List D} {ws : List V}, RVs K H η μ ds ws → RVs K (upd H a o) η μ ds ws
  | _, _, .nil => .nil
  | _, _, .cons h r => .cons (RV.un lk hm e0 h) (RVs.un lk hm e0 r)
end
theorem RKs.un {κ : Type} (lk : Lk u) (hm : a ∈ μ) (e0 : H a = some (.frz ob u)) : ∀ {ds : List (κ × D)} {ws : List (κ × V)}, RKs K H η μ ds ws → RKs K (upd H a o) η μ ds ws
  | _, _, .nil => .nil
  | _, _, .cons h r => .cons (h.un lk hm e0) (RKs.un lk hm e0 r)
theorem tlv_un {b : Addr} {t : Tl} (lk : Lk u) (e0 : H a = some (.frz ob u)) (h : TlV K H b t) : TlV K (upd H a o) b t := by
  obtain ⟨qs, h1, h2⟩ := h
  refine ⟨qs, sqt_un lk e0 h1, ?_⟩
  clear h1
  induction h2 with
  | nil => exact .nil
  | cons a _ ih => exact .cons (sqt_un lk e0 a) ih
theorem COk.un (lk : Lk u) (hm : a ∈ μ) (e0 : H a = some (.frz ob u)) {c : Cell} {x : Option HO} {p : Addr} (h : COk K H η μ c x p) : COk K (upd H a o) η μ c x p := by
  cases c with
  | lst ds => obtain ⟨vs, e, b⟩ := h; exact ⟨vs, e, b.un lk hm e0⟩
  | dct ds => obtain ⟨vs, e, b⟩ := h; exact ⟨vs, e, b.un lk hm e0⟩
  | dlk ds => obtain ⟨ob, vs, e, b⟩ := h; exact ⟨ob, vs, e, b.un lk hm e0⟩
  | dkk ds => obtain ⟨vs, e, b⟩ := h; exact ⟨vs, e, b.un lk hm e0⟩
  | dkl ds => obtain ⟨ob, vs, e, b⟩ := h; exact ⟨ob, vs, e, b.un lk hm e0⟩
  | sts ks => obtain ⟨xs, e, b, c⟩ := h; exact ⟨xs, e, b, fun x hx => sqt_un lk e0 (c x hx)⟩
  | stl ks => obtain ⟨ob, xs, e, b, c⟩ := h; exact ⟨ob, xs, e, b, fun x hx => sqt_un lk e0 (c x hx)⟩
  | tks ks => obtain ⟨xs, e, b, c⟩ := h; exact ⟨xs, e, b, fun x hx => tlv_un lk e0 (c x hx)⟩
  | ins cn fs => obtain ⟨C, dx, vs, x, e, b⟩ := h; exact ⟨C, dx, vs, x, e, b.un lk hm e0⟩
  | exn cn ds =>
    obtain ⟨C, d, vs, x, e, b, m, q⟩ := h
    refine ⟨C, d, vs, x, e, b.un lk hm e0, m, ?_⟩
    rcases q with q | ⟨f, v, dx, h1, h2, h3, h4, h5, h6⟩
    · exact .inl q
    · exact .inr ⟨f, v, dx, h1, h2, h3, by rw [upd_ne (fun z => h5 (by rw [z]; exact hm))]; exact h4, h5, h6⟩
theorem RE.un {ρ : DEnv} {σ : St} (lk : Lk u) (hm : a ∈ μ) (e0 : H a = some (.frz ob u)) (r : RE K H η μ ρ σ) : RE K (upd H a o) η μ ρ σ :=
  ⟨r.len, fun i d h => let ⟨v, x, y⟩ := r.get i d h; ⟨v, x, y.un lk hm e0⟩⟩
theorem rp_unlock {S : DStore} {n : Nat} {ds : List (List L2.Key × D)} {vs : List (List L2.Key × V)} (r : Rp K η μ S H) (h : μ[n]? = some a) (e0 : H a = some (.frz ob (.dT vs))) (q : RKs K H η μ ds vs) : Rp K η μ (S.set n (.dct ds)) (upd H a (.dT vs)) :=
  rp_setC r h (fun c b _ hc => hc.un lkT (List.mem_of_getElem? h) e0) ⟨vs, rfl, q.un lkT (List.mem_of_getElem? h) e0⟩
/-- locked, run, unlocked: as a whole things have grown -/
theorem grow_un {H1 : Hp} {μ1 : List Addr} (lk : Lk u) (nf : ∀ o w, u ≠ .frz o w) (hm : a ∈ μ) (e : H a = some u) (g : Grow μ (upd H a (.frz ob u)) μ1 H1) : Grow μ H μ1 (upd H1 a u) := by
  obtain ⟨more, em⟩ := g.pre
  refine ⟨⟨more, em⟩, fun b x nt eb n => ?_, fun b xs eb => ?_, fun b x w eb => ?_⟩
  · have ne : b ≠ a := fun z => n (by rw [z]; exact hm)
    have := g.keep b x nt (by rw [upd_ne ne]; exact eb) n
    exact ⟨by rw [upd_ne ne]; exact this.1, this.2⟩
  · have ne : b ≠ a := fun z => by rw [z, e] at eb; cases eb; exact lk.t _ rfl
    rw [upd_ne ne]; exact g.tup b xs (by rw [upd_ne ne]; exact eb)
  · have ne : b ≠ a := fun z => by rw [z, e] at eb; cases eb; exact nf _ _ rfl
    rw [upd_ne ne]; exact g.frz b x w (by rw [upd_ne ne]; exact eb)
end unlock
/-- a hidden list -/
theorem ext_hide {S : DStore} (r : Rp K η μ S H) {p : Addr} {o : HO} (h : H p = none) : Ext η μ H (p :: η) μ (upd H p o) :=
  ⟨⟨[], by simp⟩, fun a u _ e n m => ⟨by rw [upd_ne (ne_of_none e h)]; exact e, n, fun z => by
    rcases List.mem_cons.mp z with z | z
    · exact ne_of_none e h z
    · exact m z⟩, fun a xs e => by rw [upd_ne (ne_of_none e h)]; exact e, fun a u w e => by rw [upd_ne (ne_of_none e h)]; exact e⟩
theorem rp_hide {S : DStore} (r : Rp K η μ S H) {p : Addr} {vs : List V} (h : H p = none) : Rp K (p :: η) μ S (upd H p (.lst vs)) := by
  have g := ext_hide (o := .lst vs) r h
  have f := r.fresh h
  refine ⟨r.len, r.nodup, fun n c e => ?_, fun a ha => ?_, fun P hP => (r.tb P hP).of (kx_hide h)⟩
  · obtain ⟨a, ha, hc⟩ := r.cell n c e
    have : a ≠ p := fun z => f.1 (z ▸ List.mem_of_getElem? ha)
    exact ⟨a, ha, by rw [upd_ne this]; exact hc.ext g⟩
  · rcases List.mem_cons.mp ha with rfl | ha
    · rw [upd_same]; exact ⟨f.1, (fun z => nomatch z), (fun _ z => nomatch z), (fun _ _ z => nomatch z)⟩
    · have : a ≠ p := fun z => f.2 (z ▸ ha)
      rw [upd_ne this]; exact r.hid a ha
theorem rp_hideO {S : DStore} {o : HO} (r : Rp K η μ S H) {p : Addr} (nt : ∀ xs, o ≠ .tup xs) (nf : ∀ a u, o ≠ .frz a u) (h : H p = none) : Rp K (p :: η) μ S (upd H p o) := by
  have g := ext_hide (o := o) r h
  have f := r.fresh h
  refine ⟨r.len, r.nodup, fun n c e => ?_, fun a ha => ?_, fun P hP => (r.tb P hP).of (kx_hide h)⟩
  · obtain ⟨a, ha, hc⟩ := r.cell n c e
    have : a ≠ p := fun z => f.1 (z ▸ List.mem_of_getElem? ha)
    exact ⟨a, ha, by rw [upd_ne this]; exact hc.ext g⟩
  · rcases List.mem_cons.mp ha with rfl | ha
    · rw [upd_same]; exact ⟨f.1, (fun z => nomatch z), (fun _ z => nt _ (Option.some.inj z)), (fun _ _ z => nf _ _ (Option.some.inj z))⟩
    · have : a ≠ p := fun z => f.2 (z ▸ ha)
      rw [upd_ne this]; exact r.hid a ha
/-- the hidden list is changed -/
theorem ext_hset {S : DStore} (r : Rp K (p :: η) μ S H) {o : HO} : Ext (p :: η) μ H (p :: η) μ (upd H p o) := by
  have q := r.hid p (by simp)
  refine ⟨⟨[], by simp⟩, fun a u _ e n m => ⟨?_, n, m⟩, fun b xs e => ?_, fun b u w e => ?_⟩
  · rw [upd_ne (fun z => m (by simp [z]))]; exact e
  · rw [upd_ne (fun z => by subst z; exact q.2.2.1 _ e)]; exact e
  · rw [upd_ne (fun z => by subst z; exact q.2.2.2 _ _ e)]; exact e
theorem rp_hset {S : DStore} (r : Rp K (p :: η) μ S H) {vs : List V} : Rp K (p :: η) μ S (upd H p (.lst vs)) := by
  have g := ext_hset (o := .lst vs) r
  have q := r.hid p (by simp)
  refine ⟨r.len, r.nodup, fun n c e => ?_, fun a ha => ?_, fun P hP => (r.tb P hP).of (kx_hset)⟩
  · obtain ⟨a, ha, hc⟩ := r.cell n c e
    have : a ≠ p := fun z => q.1 (z ▸ List.mem_of_getElem? ha)
    exact ⟨a, ha, by rw [upd_ne this]; exact hc.ext g⟩
  · by_cases hp : a = p
    · subst hp; rw [upd_same]; exact ⟨q.1, (fun z => nomatch z), (fun _ z => nomatch z), (fun _ _ z => nomatch z)⟩
    · rw [upd_ne hp]; exact r.hid a ha
theorem rp_hsetO {S : DStore} {o : HO} (nt : ∀ xs, o ≠ .tup xs) (nf : ∀ a u, o ≠ .frz a u) (r : Rp K (p :: η) μ S H) : Rp K (p :: η) μ S (upd H p o) := by
  have g := ext_hset (o := o) r
  have q := r.hid p (by simp)
  refine ⟨r.len, r.nodup, fun n c e => ?_, fun a ha => ?_, fun P hP => (r.tb P hP).of (kx_hset)⟩
  · obtain ⟨a, ha, hc⟩ := r.cell n c e
    have : a ≠ p := fun z => q.1 (z ▸ List.mem_of_getElem? ha)
    exact ⟨a, ha, by rw [upd_ne this]; exact hc.ext g⟩
  · by_cases hp : a = p
    · subst hp; rw [upd_same]; exact ⟨q.1, (fun z => nomatch z), (fun _ z => nt _ (Option.some.inj z)), (fun _ _ z => nf _ _ (Option.some.inj z))⟩
    · rw [upd_ne hp]; exact r.hid a ha
/-- it comes to light -/
theorem ext_show {p : Addr} : Ext (p :: η) μ H η μ H := ⟨⟨[], by simp⟩, fun a o _ h n m => ⟨h, n, fun z => m (by simp [z])⟩, fun _ _ h => h, fun _ _ _ h => h⟩
theorem rp_show {S : DStore} {p : Addr} (r : Rp K (p :: η) μ S H) : Rp K η μ S H :=
  ⟨r.len, r.nodup, fun n c e => let ⟨a, ha, hc⟩ := r.cell n c e; ⟨a, ha, hc.ext ext_show⟩, fun a ha => r.hid a (by simp [ha]), fun P hP => (r.tb P hP).of kx_show⟩
theorem ext_showCell {p : Addr} : Ext (p :: η) μ H η (μ ++ [p]) H := ⟨⟨[p], rfl⟩, fun a o _ h n m => ⟨h, fun z => by
    rcases List.mem_append.mp z with z | z
    · exact n z
    · exact m (by simp at z; simp [z]), fun z => m (by simp [z])⟩, fun _ _ h => h, fun _ _ _ h => h⟩
theorem rp_showCellC {S : DStore} {p : Addr} {c : Cell} {o : HO} (hp : p ∉ η) (r : Rp K (p :: η) μ S H) (h : H p = some o) (q : COk K H η (μ ++ [p]) c (some o) p) : Rp K η (μ ++ [p]) (S ++ [c]) H := by
  have g : Ext (p :: η) μ H η (μ ++ [p]) H := ext_showCell
  have z := r.hid p (by simp)
  refine ⟨by simp [r.len], ?_, fun n c' e => ?_, fun a ha => ?_, fun P hP => (r.tb P hP).of kx_showC⟩
  · rw [List.nodup_append]
    exact ⟨r.nodup, by simp, fun a ha b hb => by simp at hb; subst hb; exact fun y => z.1 (y ▸ ha)⟩
  · by_cases hn : n < S.length
    · rw [List.getElem?_append_left hn] at e
      obtain ⟨a, ha, hc⟩ := r.cell n c' e
      exact ⟨a, by rw [List.getElem?_append_left (by rw [r.len]; exact hn)]; exact ha, hc.ext g⟩
    · have hn' : n = S.length := by
        have := (List.getElem?_eq_some_iff.mp e).1
        simp at this
        omega
      subst hn'
      simp at e
      subst e
      exact ⟨p, by rw [← r.len]; simp, by rw [h]; exact q⟩
  · have y := r.hid a (by simp [ha])
    exact ⟨fun w => by
      rcases List.mem_append.mp w with w | w
      · exact y.1 w
      · simp at w; subst w; exact hp ha, y.2⟩
theorem rp_showCell {S : DStore} {p : Addr} {ds : List D} {vs : List V} (hp : p ∉ η) (r : Rp K (p :: η) μ S H) (h : H p = some (.lst vs)) (q : RVs K H (p :: η) μ ds vs) : Rp K η (μ ++ [p]) (S ++ [.lst ds]) H :=
  rp_showCellC hp r h ⟨vs, rfl, q.ext ext_showCell⟩
theorem rp_showCellK {S : DStore} {p : Addr} {ds : List (L2.Key × D)} {vs : List (L2.Key × V)} (hp : p ∉ η) (r : Rp K (p :: η) μ S H) (h : H p = some (.dK vs)) (q : RKs K H (p :: η) μ ds vs) : Rp K η (μ ++ [p]) (S ++ [.dkk ds]) H :=
  rp_showCellC hp r h ⟨vs, rfl, q.ext ext_showCell⟩
theorem rp_showCell3 {S : DStore} {p : Addr} {xs : List (K3 × Addr)} (hp : p ∉ η) (r : Rp K (p :: η) μ S H) (h : H p = some (StD p xs)) (q : Ks3 K H xs) : Rp K η (μ ++ [p]) (S ++ [.sts (xs.map (·.1))]) H :=
  rp_showCellC hp r h ⟨xs, rfl, rfl, q⟩
theorem std_frz {a : Addr} {xs : List (K3 × Addr)} (o : Obj) (u : HO) : StD a xs ≠ .frz o u := fun z => nomatch z
theorem rp_set3 {S : DStore} (r : Rp K η μ S H) {a : Addr} {n : Nat} {xs ys : List (K3 × Addr)} (h : μ[n]? = some a) (e0 : H a = some (StD a xs)) (q : Ks3 K H ys) : Rp K η μ (S.set n (.sts (ys.map (·.1)))) (upd H a (StD a ys)) := by
  have g := (grow_set (o := StD a ys) r h e0 (std_frz)).ext (η := η)
  exact rp_setC r h (fun c b _ hc => hc.ext g) ⟨ys, rfl, rfl, q.ext g⟩
theorem RKs.look {f : Str} : ∀ {ds : List (Str × D)} {vs : List (Str × V)}, RKs K H η μ ds vs → (∀ d, ds.lookup f = some d → ∃ v, vs.lookup f = some v ∧ RV K H η μ d v) ∧ (ds.lookup f = none → vs.lookup f = none)
  | _, _, .nil => ⟨(fun _ z => nomatch z), fun _ => rfl⟩
  | _, _, .cons (k := k) a r => by
    have ih := RKs.look (f := f) r
    rw [List.lookup_cons, List.lookup_cons]
    cases e : f == k with
    | true => exact ⟨fun d z => by cases z; exact ⟨_, rfl, a⟩, fun z => nomatch z⟩
    | false => exact ih
theorem RKs.len {κ : Type} : ∀ {ds : List (κ × D)} {vs : List (κ × V)}, RKs K H η μ ds vs → ds.length = vs.length
  | _, _, .nil => rfl
  | _, _, .cons _ r => congrArg Nat.succ (RKs.len r)
/-- a new instance: its dict, then itself -/
theorem rp_make {S : DStore} (r : Rp K η μ S H) {x dx C : Addr} {cn : Str} (hn : PySem.W.nsIn K mainGlobals cn = some (some (.ref C))) (hx : H x = none) (hd : H dx = none) (ne : dx ≠ x) :
    Rp K η (μ ++ [x]) (S ++ [.ins cn []]) (upd (upd H dx (.own x)) x (.ins C dx [])) ∧ Grow μ H (μ ++ [x]) (upd (upd H dx (.own x)) x (.ins C dx [])) := by
  have r1 := rp_new (o := .own x) r hd
  have hx1 : upd H dx (.own x) x = none := by rw [upd_ne (Ne.symm ne)]; exact hx
  exact ⟨rp_cellC r1 hx1 ⟨C, dx, [], hn, rfl, .nil⟩, (grow_new r hd).trans (grow_cell r1 hx1)⟩
/-- a caught exception -/
theorem rp_exn {S : DStore} (r : Rp K η μ S H) {a C : Addr} {d : Option Addr} {cn : Str} {ds : List D} {vs : List V} (hn : PySem.W.nsIn K mainGlobals cn = some (some (.ref C))) (ha : H a = none) (rv : RVs K H η μ ds vs) (m : cn ∈ xnm) (x : XFk cn vs d H η μ) :
    Rp K η (μ ++ [a]) (S ++ [.exn cn ds]) (upd H a (exk a C d)) ∧ Grow μ H (μ ++ [a]) (upd H a (exk a C d)) := by
  have g := grow_cell (o := exk a C d) r ha
  exact ⟨rp_cellC r ha ⟨C, d, vs, hn, rfl, rv.ext (g.ext (η := η)), m, x.ext g.ext⟩, g⟩
end
theorem key_ofS {X : Cx} {pins : List (Addr × Obj)} {σ : L2.St} {H : Hp} {s : Shared} {b : Addr} {ks : List L2.Key} (I : Inv X pins σ H s) (h : SqT X.K H b (ks.map kV)) : (tupleKind (mixKind X.prog X.w)).is s.heap ks b := by
  obtain ⟨its, r, ⟨o, e, hc, n, hd⟩, hz⟩ := I.tuple h
  exact ⟨o, its.toArray, n, e, hc, hd, by simpa using items_are r⟩
noncomputable def rIxD (K : PySem.W.Frag) : R2 := fun x y H Q => ∃ (a b : Addr) (kvs : List (List L2.Key × V)) (ks : List L2.Key) (v : V), x = .ref a ∧ y = .ref b ∧ Rd H a (.dT kvs) ∧ SqT K H b (ks.map kV) ∧ valV kvs ks = some v ∧ Q v H
theorem ix_dictS {X : Cx} (hu : X.A.units + 1 < cLine) : IxR X (rIxD X.K) := by
  intro value slice pins s σ H x y v u Q I rx ry h hs
  obtain ⟨a, b, kvs, ks, w, rfl, rfl, e, hb, l, q⟩ := h
  cases rx; cases ry
  obtain ⟨z, hd, xs, rel, dd⟩ := dt_rd I.hok e
  obtain ⟨w', hw, rw'⟩ := RelO.some_of (v := w) (o := (atKey xs ks).map (·.2)) (by rw [← l]; exact rel.val ks)
  obtain ⟨p, hp, hp2⟩ := Option.map_eq_some_iff.mp hw
  refine subscriptTail_builtinR (x := w') dd.typeIs PySem.F.slot_dict_getitem.lookup (wpAny_getItem_heap (Q := fun r s' => r = w' ∧ EP X pins σ Q r s') (tupleKind_room_in1 hu) (key_ofS I hb) dd hp ?_) hs
  rw [hp2]
  exact ⟨rfl, w, H, I.tok _, rw', q⟩
noncomputable def rSetD : V → V → V → Hp → (Hp → Prop) → Prop := fun o i v H Q => ∃ (a b : Addr) (kvs : List (List L2.Key × V)) (ks : List L2.Key), o = .ref a ∧ i = .ref b ∧ H a = some (.dT kvs) ∧ H b = some (.tup (ks.map kV)) ∧ kvs.length < sizeLine ∧ Q (upd H a (.dT (putK kvs ks v)))
theorem set_dictT {X : Cx} (hu : X.A.units + 1 < cLine) : PSet X rSetD := by
  intro pins s σ H o i v ov iv u Q I ro ri rv h
  obtain ⟨a, b, kvs, ks, rfl, rfl, ha, hb, hl, q⟩ := h
  cases ro
  exact d_setItem hu I (.t ha hb hl) ri rv fun s' I' => ⟨_, I', q⟩
noncomputable def keyOf : D → Option L2.Key
  | .int i => some (.inl i)
  | .str x => some (.inr x)
  | _ => none
noncomputable def keysOf : List D → Option (List L2.Key)
  | [] => some []
  | d :: ds => (keyOf d).bind fun k => (keysOf ds).map (k :: ·)
noncomputable def keyD : L2.Key → D
  | .inl i => .int i
  | .inr x => .str x
noncomputable def valD {κ : Type} [DecidableEq κ] (kvs : List (κ × D)) (k : κ) : Option D := (kvs.find? fun kv => decide (kv.1 = k)).map (·.2)
noncomputable def putD {κ : Type} [DecidableEq κ] (kvs : List (κ × D)) (k : κ) (v : D) : List (κ × D) :=
  if (kvs.any fun kv => decide (kv.1 = k)) = true then kvs.map (fun kv => if kv.1 = k then (kv.1, v) else kv) else kvs ++ [(k, v)]
section
variable {K : PySem.W.Frag} {H : Hp} {η μ : List Addr}
theorem keyOf_rv {d : D} {v : V} {k : L2.Key} (r : RV K H η μ d v) (h : keyOf d = some k) : v = kV k := by
  cases r <;> simp only [keyOf, Option.some.injEq, reduceCtorEq] at h <;> subst h <;> rfl
theorem keysOf_rv : ∀ {ds : List D} {vs : List V} {ks : List L2.Key}, RVs K H η μ ds vs → keysOf ds = some ks → vs = ks.map kV
  | _, _, _, .nil, h => by simp only [keysOf, Option.some.injEq] at h; subst h; rfl
  | _, _, ks, .cons r t, h => by
    simp only [keysOf, Option.bind_eq_some_iff, Option.map_eq_some_iff] at h
    obtain ⟨k, h1, ks', h2, rfl⟩ := h
    rw [keyOf_rv r h1, keysOf_rv t h2]; rfl
theorem keyD_rv : ∀ ks : List L2.Key, RVs K H η μ (ks.map keyD) (ks.map kV)
  | [] => .nil
  | .inl i :: ks => .cons (.int i) (keyD_rv ks)
  | .inr x :: ks => .cons (.str x) (keyD_rv ks)
section
variable {κ : Type} [DecidableEq κ]
theorem RKs.length : ∀ {ds : List (κ × D)} {vs : List (κ × V)}, RKs K H η μ ds vs → ds.length = vs.length
  | _, _, .nil => rfl
  | _, _, .cons _ r => by simp [RKs.length r]
theorem RKs.keys : ∀ {ds : List (κ × D)} {vs : List (κ × V)}, RKs K H η μ ds vs → ds.map (·.1) = vs.map (·.1)
  | _, _, .nil => rfl
  | _, _, .cons _ r => by simp [RKs.keys r]
theorem RKs.get : ∀ {ds : List (κ × D)} {vs : List (κ × V)} {i : Nat} {k : κ} {v : V}, RKs K H η μ ds vs → vs[i]? = some (k, v) → ∃ d, ds[i]? = some (k, d) ∧ RV K H η μ d v
  | _, _, _, _, _, .nil, e => by simp at e
  | _, _, 0, _, _, .cons r _, e => by simp at e; obtain ⟨rfl, rfl⟩ := e; exact ⟨_, rfl, r⟩
  | _, _, i + 1, k, v, .cons _ t, e => by
    obtain ⟨d, h1, h2⟩ := RKs.get (i := i) (k := k) (v := v) t (by simpa using e)
    exact ⟨d, by simpa using h1, h2⟩
theorem RKs.val (k : κ) : ∀ {ds : List (κ × D)} {vs : List (κ × V)}, RKs K H η μ ds vs → (∀ d, valD ds k = some d → ∃ v, valV vs k = some v ∧ RV K H η μ d v) ∧ (valD ds k = none → valV vs k = none)
  | _, _, .nil => ⟨fun d h => by simp [valD] at h, fun _ => rfl⟩
  | _, _, @RKs.cons _ _ _ _ _ k' d' v' ds vs r t => by
    by_cases e : k' = k
    · subst e
      refine ⟨fun d h => ?_, fun h => ?_⟩
      · simp [valD] at h; subst h; exact ⟨v', by simp [valV], r⟩
      · simp [valD] at h
    · have ih := RKs.val k t
      have e1 : valD ((k', d') :: ds) k = valD ds k := by simp [valD, List.find?_cons, e]
      have e2 : valV ((k', v') :: vs) k = valV vs k := by simp [valV, List.find?_cons, e]
      rw [e1, e2]; exact ih
theorem RKs.any (k : κ) : ∀ {ds : List (κ × D)} {vs : List (κ × V)}, RKs K H η μ ds vs → (ds.any fun kv => decide (kv.1 = k)) = (vs.any fun kv => decide (kv.1 = k))
  | _, _, .nil => rfl
  | _, _, .cons _ t => by simp only [List.any_cons, RKs.any k t]
theorem RKs.app : ∀ {ds es : List (κ × D)} {vs ws : List (κ × V)}, RKs K H η μ ds vs → RKs K H η μ es ws → RKs K H η μ (ds ++ es) (vs ++ ws)
  | _, _, _, _, .nil, s => s
  | _, _, _, _, .cons r t, s => .cons r (RKs.app t s)
theorem RKs.repl {k : κ} {d : D} {v : V} (r : RV K H η μ d v) : ∀ {ds : List (κ × D)} {vs : List (κ × V)}, RKs K H η μ ds vs → RKs K H η μ (ds.map fun kv => if kv.1 = k then (kv.1, d) else kv) (vs.map fun kv => if kv.1 = k then (kv.1, v) else kv)
  | _, _, .nil => .nil
  | _, _, @RKs.cons _ _ _ _ _ k' d' v' ds vs q t => by
    simp only [List.map_cons]
    by_cases e : k' = k
    · simp only [e, if_true]; exact .cons r (RKs.repl r t)
    · simp only [e, if_false]; exact .cons q (RKs.repl r t)
theorem RKs.put {k : κ} {d : D} {v : V} {ds : List (κ × D)} {vs : List (κ × V)} (q : RKs K H η μ ds vs) (r : RV K H η μ d v) : RKs K H η μ (putD ds k d) (putK vs k v) := by
  unfold putD putK
  rw [q.any k]
  split
  · exact RKs.repl r q
  · exact q.app (.cons r .nil)
end
end
end DL
namespace DL
open PySem PySem.Spec PyProof.Rows L2 PySem.W PySem.Calls PyProof.V
section
variable {X : Cx} {pins : List (Addr × Obj)} {σ : L2.St} {H : Hp} {s : Shared} {d : Addr} {o : Obj}
theorem frzT2 {kvs : List (List L2.Key × V)} (I : Inv X pins σ H s) (h : H d = some (.frz o (.dT kvs))) :
    (d == sysModules) = false ∧ s.heap.get? d = some o ∧ o.ExactDict ∧ ∃ (es : Array DictEntry) (ep : Nat), o.data = .dict es ep ∧ es.size = kvs.length ∧
      ∀ (i : Nat) (k : List L2.Key) (v : V), kvs[i]? = some (k, v) → ∃ (en : DictEntry) (q : Addr), es[i]? = some en ∧ en.key = .ref q ∧ H q = some (.tup (k.map kV)) ∧ RelV v en.val := by
  obtain ⟨hd, z, hs, xs, pr, o', es, ep, ho, hx, hdt, he, _⟩ := I.hok d _ h
  rw [hd] at ho
  cases ho
  refine ⟨hs, hd, hx, es, ep, hdt, ?_, fun i k v e => ?_⟩
  · have l1 : es.size = xs.length := size_of_entries he
    have l2 : kvs.length = xs.length := Paired.length pr
    omega
  · obtain ⟨b, hb, e1, e2, e3⟩ := paired_get pr e
    have q := entry_at he i
    rw [hb] at q
    exact ⟨_, b.2.1, q, rfl, e2, e3⟩
end
/-- the pairs, each a new tuple: the key's own tuple, the value -/
noncomputable def Itit (d : Addr) (o : Obj) (kvs : List (List L2.Key × V)) : It :=
  ⟨fun i H => H d = some (.frz o (.dT kvs)) ∧ i < kvs.length, fun i H x H' => ∃ (T : Addr) (k : List L2.Key) (v : V) (q : Addr), kvs[i]? = some (k, v) ∧ H q = some (.tup (k.map kV)) ∧ x = .ref T ∧ H T = none ∧ H' = upd H T (.tup [.ref q, v]), fun i H => H d = some (.frz o (.dT kvs)) ∧ kvs.length ≤ i⟩
section
variable {P : Program} {w : World} {K : PySem.W.Frag} {d : Addr} {o : Obj} {es : Array DictEntry} {ep : Nat}
theorem turn_itemsT {kvs : List (List L2.Key × V)} {elts : List Expr} {kk : Nat} {tpos : Pos} (it : Addr) (hod : o.data = .dict es ep) :
    Turn P w K (.Tuple elts kk tpos) (Itit d o kvs) [it] it (fun i h => ∃ ok ov, IsItemIter h it d i kvs.length ep ok ov) where
  mem := by simp
  obj := fun i h st b hb => by
    have e : b = it := by simpa using hb
    subst e
    obtain ⟨ok, ov, e⟩ := st
    exact ⟨_, e, fun v z => nomatch z⟩
  keep := fun i h h' st k => let ⟨ok, ov, e⟩ := st; ⟨ok, ov, k it (by simp) _ e⟩
  item := by
    intro X hP hw hK hc i pins s σ H E I hf st hg
    subst hP hw hK
    obtain ⟨hd, hi⟩ := hg
    obtain ⟨hs, hgd, hx, es', ep', hdt, hsz, ent⟩ := frzT2 I hd
    obtain ⟨rfl, rfl⟩ := dict_ep hod hdt
    obtain ⟨⟨k, v⟩, hkv⟩ : ∃ p, kvs[i]? = some p := ⟨kvs[i], List.getElem?_eq_getElem hi⟩
    obtain ⟨en, q, hen, hkey, hq, hval⟩ := ent i k v hkv
    obtain ⟨ok, ov, he⟩ := st
    have hi' : i < es'.size := by omega
    have hen' : es'[i] = en := by rw [Array.getElem?_eq_getElem hi'] at hen; exact Option.some.inj hen
    have hlt : it < s.heap.objs.size := Heap.lt_size he
    refine DT.nextI (es := es') (by rw [hsz]; exact he) ⟨o, hgd, hx, hdt⟩ hi' fun h' ho hT hz hk => ?_
    rw [hen'] at ho hT
    refine ⟨_, rfl, wpAny_letOwnedTupleGo_items (s := { s with heap := h' }) ho fun h'' he' sb => ?_⟩
    have hT2 : h''.get? s.heap.objs.size = some { cls := .type "tuple", data := .seq #[en.key, en.val] } := (sb.2 _ (Nat.ne_of_gt hlt)).trans hT
    have new : ObjOk X.prog X.w (upd H s.heap.objs.size (.tup [.ref q, v])) h'' s.heap.objs.size (.tup [.ref q, v]) :=
      ⟨by show 2 ≤ sizeLine; decide, [en.key, en.val], .cons hkey (.cons hval .nil), ⟨_, hT2, rfl, _, rfl⟩⟩
    have I1 : Inv X pins σ (upd H s.heap.objs.size (.tup [.ref q, v])) { s with heap := h'' } :=
      I.turnedNew (t' := s.toks) (ch := [it]) (fun b ob hb e => (sb.2 b (by simpa using hb)).trans (hk b ob (by simpa using hb) e)) hf (Nat.le_refl _) new
    refine ⟨.ref s.heap.objs.size, _, I1, rfl, ⟨_, k, v, q, hkv, hq, rfl, I.hok.fresh (Nat.le_refl _), rfl⟩, ⟨en.key, en.val, ?_⟩, fun b hb => ?_⟩
    · rw [← hsz]; exact he'
    · have e : b = it := by simpa using hb
      rw [e, upd_ne (Nat.ne_of_lt hlt)]
      exact (hf it (by simp)).1
  done := by
    intro X hP hw hK hc i pins s σ H E I hf st hg
    subst hP hw hK
    obtain ⟨hd, hi⟩ := hg
    obtain ⟨f0, f1, f2, f3, f4, f5⟩ := hf it (by simp)
    obtain ⟨hs, hgd, hx, es', ep', hdt, hsz, ent⟩ := frzT2 I hd
    obtain ⟨rfl, rfl⟩ := dict_ep hod hdt
    obtain ⟨ok, ov, he⟩ := st
    exact DT.endI (es := es') (I.ok.hd hc) (by rw [hsz]; exact he) ⟨o, hgd, hx, hdt⟩ (by omega) fun h' eb => ⟨rfl, I.turned (t' := s.toks) (fun b ob hb e => eb b ob hb e) f0 f1 f3 f4 f5⟩
  self := fun A i s Q E st h => let ⟨_, _, e⟩ := st; PySem.W.kcp_self e h
end
noncomputable def iItemsT (td : TE) : TI := fun σ H R => td σ H fun x H1 => ∃ d o kvs, x = .ref d ∧ H1 d = some (.frz o (.dT kvs)) ∧ R (Itit d o kvs) H1
theorem pi_itemsT {X : Cx} {e : Expr} {td : TE} {apos cpos : Pos} {elts : List Expr} {kk : Nat} {tpos : Pos} (he : PE X e td) (hbase : attributeBase e "items" X.env (eval e X.env) = eval e X.env) (hline : (apos.endLine == cpos.line) = true) :
    PI X (.Tuple elts kk tpos) (.Call (.Attribute e "items" apos) [] [] cpos) (iItemsT td) := by
  refine ⟨fun pins s σ H R I h => ?_⟩
  refine wpAny_Call_method (T := "dict") (id := "dict.items") hbase rfl hline F.plainAttrs_dict F.slot_dict_items F.type_dict_items (thn (he.run pins s σ H _ I h) fun u s1 ⟨x, H1, I1, rx, d, o, kvs, ex, hd, q⟩ => ?_)
  subst ex
  obtain rfl : u = Value.ref d := rx
  obtain ⟨hs, hgd, hx, es, ep, hdt, hsz, ent⟩ := frzT2 I1 hd
  have hraw : DT.Raw s1.heap d es ep := ⟨o, hgd, hx, hdt⟩
  refine ⟨hraw.typeIs, fun b q => by cases q; exact ⟨o, hgd, hx.2.1⟩, ?_⟩
  have I2 : Inv X pins σ H1 { s1 with heap := s1.heap.push { cls := .type "dict_items", data := .fields #[.ref d] } } := I1.kept (t' := s1.toks) fun b ob q => Heap.get?_push_of_some _ q
  have fin : wpAny (model X.prog X.w) X.A (pyIter (.ref s1.heap.objs.size)) (PIE X pins σ (.Tuple elts kk tpos) R) X.xe { s1 with heap := s1.heap.push { cls := .type "dict_items", data := .fields #[.ref d] } } := by
    refine DT.iterI (d := d) (es := es) (ep := ep) ⟨_, Heap.get?_push_size _ rfl, rfl, rfl⟩ (hraw.push _) (pi_one (tk := s1.toks) I2 _ (turn_itemsT _ hdt) ⟨.none, .none, ?_⟩ q)
    rw [← hsz]
    exact Heap.get?_push_size _ rfl
  show wpAny _ _ (callWith cpos (.builtin "dict.items") [.ref d] [] []) _ X.xe s1
  exact method_meetsIn F.slot_dict_items F.entry_dict_items rfl (PySem.evalArgs_none ⟨rfl, hraw.typeIs, F.args_dict_items_1 _, _, DT.meetsItems (es := es) (ep := ep) hs, hraw, fin⟩)
end DL
set_option maxHeartbeats 4000000
namespace DL
open PySem PySem.Spec PyProof.Rows L2
theorem tuple_mul1 (l : Addr) (items : Array Value) (n : Nat) (dd : Option Addr) (sl : Array (Option Value)) (u : Tok) :
    Meets (Builtin.«tuple.__mul__» ⟨[.ref l, .int 1 u], []⟩) (fun _ R s => s.heap.get? l = some { cls := .type "tuple", dict := dd, data := .seq items n, slots := sl } ∧ R (.ok (.ret (Value.ref l))) s) :=
  .of_wp fun prog w A R s h => by
    obtain ⟨hp, g, d, tk, os⟩ := s
    obtain ⟨hl, h⟩ := h
    have f1 := AutoSeq1.idx_int
    have c0 : (decide ((1 : Int) < -(2 ^ 63)) || decide ((1 : Int) ≥ 2 ^ 63)) = false := by decide
    have c1 : (items.isEmpty || (1 : Int) == 1) = true := by simp
    wp_walk using wpAny_loadPart' hl
    repeat (first
      | (refine wpAny_ite_false (decide_eq_false (by rw [c0]; exact Bool.false_ne_true)) ?_; wp_walk using wpAny_loadPart' hl)
      | (refine wpAny_ite_true (decide_eq_true (by rw [c1])) ?_; wp_walk using wpAny_loadPart' hl))
    exact ⟨_, rfl, h⟩
noncomputable def rRep1 (K : PySem.W.Frag) : R2 := fun x y H Q => ∃ l xs, x = .ref l ∧ y = .int 1 ∧ SqT K H l xs ∧ Q (.ref l) H
theorem op_rep1 {X : Cx} : OpR X (binaryOp .Mult) (rRep1 X.K) := by
  intro pins s σ H x y v u Q I rx ry h
  obtain ⟨l, xs, rfl, rfl, hT, q⟩ := h
  cases rx
  obtain ⟨t, rfl⟩ := ry
  obtain ⟨its, r, ⟨⟨cls, dd, data, sl⟩, ho, hc, n, hd⟩, hs⟩ := I.tuple hT
  simp only at hc hd
  subst hc hd
  exact wpAny_binaryOp_repeat_ref (T := "tuple") (U := "int") (by decide) ⟨_, ho, rfl⟩ (fun s' => typeIs_int s' 1 t) noFill_tuple_mul F.fills_int_mul F.slot_int_rmul repeat_tuple F.slot_int_index.lookup
    (call_meets F.slot_int_rmul (typeIs_int s 1 t) F.entry_int_rmul (F.args_int_rmul_2 _ _) (int_rmul_tuple 1 t l its.toArray n dd sl)
      ⟨ho, rfl, ⟨_, ho, rfl⟩, call_meets F.slot_tuple_mul ⟨_, ho, rfl⟩ F.entry_tuple_mul (F.args_tuple_mul_2 _ _) (tuple_mul1 l its.toArray n dd sl t) ⟨ho, ⟨.ref l, H, I, rfl, q⟩⟩⟩)
theorem tuple_mul0 (l : Addr) (items : Array Value) (n : Nat) (dd : Option Addr) (sl : Array (Option Value)) (u : Tok) (c1 : (items.isEmpty || (0 : Int) == 1) = false) :
    Meets (Builtin.«tuple.__mul__» ⟨[.ref l, .int 0 u], []⟩) (fun _ R s => s.heap.get? l = some { cls := .type "tuple", dict := dd, data := .seq items n, slots := sl } ∧
      R (.ok (.ret (Value.ref s.heap.objs.size))) { s with heap := s.heap.push { cls := Value.type "tuple", data := Data.seq #[] }, toks := s.toks }) :=
  .of_wp fun prog w A R s h => by
    obtain ⟨hp, g, d, tk, os⟩ := s
    obtain ⟨hl, h⟩ := h
    have f1 := AutoSeq1.idx_int
    have c0 : (decide ((0 : Int) < -(2 ^ 63)) || decide ((0 : Int) ≥ 2 ^ 63)) = false := by decide
    have c2 : (decide ((0 : Int) ≤ 0) || items.isEmpty) = true := by simp
    wp_walk using wpAny_loadPart' hl
    repeat (first
      | (refine wpAny_ite_false (decide_eq_false (by rw [c0]; exact Bool.false_ne_true)) ?_; wp_walk using wpAny_loadPart' hl)
      | (refine wpAny_ite_false (decide_eq_false (by rw [c1]; exact Bool.false_ne_true)) ?_; wp_walk using wpAny_loadPart' hl)
      | (refine wpAny_ite_true (decide_eq_true (by rw [c2])) ?_; wp_walk using wpAny_loadPart' hl))
    exact ⟨_, rfl, h⟩
noncomputable def rRep0 (K : PySem.W.Frag) : R2 := fun x y H Q => ∃ l xs, x = .ref l ∧ y = .int 0 ∧ SqT K H l xs ∧ xs ≠ [] ∧ ∀ p, H p = none → Q (.ref p) (upd H p (.tup []))
theorem op_rep0 {X : Cx} : OpR X (binaryOp .Mult) (rRep0 X.K) := by
  intro pins s σ H x y v u Q I rx ry h
  obtain ⟨l, xs, rfl, rfl, hT, hx, q⟩ := h
  cases rx
  obtain ⟨t, rfl⟩ := ry
  obtain ⟨its, r, ⟨⟨cls, dd, data, sl⟩, ho, hc, n, hd⟩, hs⟩ := I.tuple hT
  simp only at hc hd
  subst hc hd
  have c1 : (its.toArray.isEmpty || (0 : Int) == 1) = false := by
    cases its with
    | nil => cases r; exact absurd rfl hx
    | cons a b => rfl
  exact wpAny_binaryOp_repeat_ref (T := "tuple") (U := "int") (by decide) ⟨_, ho, rfl⟩ (fun s' => typeIs_int s' 0 t) noFill_tuple_mul F.fills_int_mul F.slot_int_rmul repeat_tuple F.slot_int_index.lookup
    (call_meets F.slot_int_rmul (typeIs_int s 0 t) F.entry_int_rmul (F.args_int_rmul_2 _ _) (int_rmul_tuple 0 t l its.toArray n dd sl)
      ⟨ho, rfl, ⟨_, ho, rfl⟩, call_meets F.slot_tuple_mul ⟨_, ho, rfl⟩ F.entry_tuple_mul (F.args_tuple_mul_2 _ _) (tuple_mul0 l its.toArray n dd sl t c1)
        ⟨ho, ⟨.ref s.heap.objs.size, upd H s.heap.objs.size (.tup []), I.laid (t' := s.toks) (fun b o e => Heap.get?_push_of_some _ e) (Nat.le_refl _) (show ObjOk X.prog X.w _ _ _ (.tup []) from ⟨Nat.zero_le _, [], .nil, IsTup.new _ _⟩), rfl, q _ (I.hok.fresh (Nat.le_refl _))⟩⟩⟩)
end DL
set_option maxHeartbeats 4000000
namespace DL
open PySem PySem.Spec PyProof.Rows L2
section
variable {X : Cx}
noncomputable def rSortDT : List V → Hp → VK → Prop := fun xs H Q => ∃ d kvs, xs = [V.ref d] ∧ Rd H d (.dT kvs) ∧ (∀ p ∈ kvs, ∃ i j : Int, p.1 = [Sum.inl i, Sum.inl j]) ∧ ∀ (p : Addr) (ys : List V) (bs : List Addr), H p = none → IsKeys H kvs bs → ys.Perm (bs.map V.ref) → Q (.ref p) (upd H p (.lst ys))
theorem isKeys_pair {H : Hp} : ∀ {kvs : List (List L2.Key × V)} {bs : List Addr}, IsKeys H kvs bs → (∀ p ∈ kvs, ∃ i j : Int, p.1 = [Sum.inl i, Sum.inl j]) → ∀ b ∈ bs, ∃ i j : Int, H b = some (.tup [.int i, .int j])
  | _, _, .nil, _, b, hb => absurd hb (by simp)
  | p :: kvs, c :: bs, .cons h t, hp, b, hb => by
    rcases List.mem_cons.mp hb with rfl | hb
    · obtain ⟨i, j, e⟩ := hp p (List.mem_cons_self ..)
      rw [e] at h
      exact ⟨i, j, h⟩
    · exact isKeys_pair t (fun q hq => hp q (List.mem_cons_of_mem _ hq)) b hb
theorem cr_sortedDT (hc : X.calm = true) : CallR X (.builtin "sorted") rSortDT := by
  intro pins s σ H xs us Q I r h
  obtain ⟨d, kvs, rfl, hd, hpair, q⟩ := h
  obtain ⟨u, rfl, rx⟩ := r.one
  cases rx
  obtain ⟨z, hs, ks, pr, o, es, ep, ho, hx, hdt, he, hn⟩ := (show ObjOk X.prog X.w H s.heap d (.dT kvs) from hd.ok I.hok)
  have l1 : es.size = ks.length := size_of_entries he
  have l2 : kvs.length = ks.length := Paired.length pr
  refine Calls.call_function_entry PyProof.Rows.kind_sorted PyProof.Rows.plain_sorted PyProof.Rows.entry_sorted (PyProof.Rows.args_sorted1 _) ?_
  unfold Builtin.«sorted»
  refine wpAny_bind (m := checkCount "sorted" 1 1 _) (wpAny_pure ?_)
  refine wpAny_bind (PySem.W.kdu_collect (A := X.A.in1) (kdl_raw hs hx hdt) (I.ok.hd hc) ho (by omega) fun h' tk acc' kp it => ?_)
  have ea : acc'.toList = ks.map fun x => Value.ref x.2.1 := by
    have hl : acc'.toList.length = ks.length := by rw [Array.length_toList, it.1]; exact l1
    apply List.ext_getElem?
    intro j
    rw [List.getElem?_map]
    cases hj : acc'.toList[j]? with
    | none =>
      have h1 := List.getElem?_eq_none_iff.mp hj
      rw [List.getElem?_eq_none (by omega)]
      all_goals rfl
    | some v =>
      obtain ⟨en, hen, hv⟩ := it.2 j v (by rw [← Array.getElem?_toList]; exact hj)
      have qe := entry_at he j
      rw [hen] at qe
      cases hb : ks[j]? with
      | none =>
        rw [hb] at qe
        exact nomatch (show some en = none from qe)
      | some b =>
        rw [hb] at qe
        have e2 : en = entryOfKey (tupleKind (mixKind X.prog X.w)) b := Option.some.inj qe
        rw [hv, e2]
        all_goals rfl
  have hl : acc'.toList.length = ks.length := by rw [ea, List.length_map]
  have hz : acc'.toList.length ≤ sizeLine := by omega
  have I1 : Inv X pins σ H { s with heap := h', toks := tk } := I.kept kp
  have hkeys := isKeys_of pr
  have hrefs : ∀ v ∈ acc'.toList, ∃ a, v = Value.ref a := fun v hv => by
    rw [ea] at hv
    obtain ⟨x, _, rfl⟩ := List.mem_map.mp hv
    exact ⟨_, rfl⟩
  have hpr : ∀ v ∈ acc'.toList, ∃ x y, Srt.IsPair h' v x y := fun v hv => by
    rw [ea] at hv
    obtain ⟨x, hx, rfl⟩ := List.mem_map.mp hv
    obtain ⟨i, j, ht⟩ := isKeys_pair hkeys hpair x.2.1 (List.mem_map.mpr ⟨x, hx, rfl⟩)
    obtain ⟨_, its2, r2, o, ho, hc, n, hd⟩ := I1.hok _ _ ht
    obtain ⟨u1, u2, rfl, ri, rj⟩ := vals2 r2
    obtain ⟨t1, rfl⟩ := ri
    obtain ⟨t2, rfl⟩ := rj
    exact ⟨i, j, x.2.1, o, t1, t2, n, rfl, ho, hc, hd⟩
  refine wpAny_bind (wpAny_newList ?_ hz)
  have hoL : (h'.push (seqObj "list" acc'.toList.toArray 0)).get? h'.objs.size = some (seqObj "list" acc'.toList.toArray 0) := Heap.get?_push_size _ rfl
  show wpAny _ _ _ _ _ { s with heap := h'.push (seqObj "list" acc'.toList.toArray 0), toks := tk }
  refine wpAny_bind (wpAny_holding (wpAny_call_entry PyProof.Rows.slot_list_sort ⟨_, hoL, rfl⟩ PyProof.Rows.entry_list_sort
    (Srt.list_sort_any (s := { s with heap := h'.push (seqObj "list" acc'.toList.toArray 0), toks := tk }) hoL hz (fun h2 => Srt.pairs_sortable (by omega) (fun v hv => ?_) fun o e => ?_) fun out hp => ⟨_, rfl, ?_⟩)
    (PyProof.Rows.args_list_sort _)))
  · obtain ⟨x, y, p⟩ := hpr v hv
    exact ⟨x, y, p.keeps fun b o e _ => Heap.get?_push_of_some _ e⟩
  · have e' : some o = some (seqObj "list" acc'.toList.toArray 0) := e.symm.trans hoL
    cases e'
    intro c
    exact absurd (Value.type.inj c) (by decide)
  · have h3 : ∀ u ∈ out, ∃ a, u = Value.ref a := fun u hu => hrefs u (hp.mem_iff.mp hu)
    obtain ⟨e', he'⟩ := PyProof.Rows.sortedHeap_at (vs := acc'.toList) (out := out.toArray) hoL
    have hlen : (out.map backV).length ≤ sizeLine := by rw [List.length_map, hp.length_eq]; exact hz
    refine wpAny_pure ⟨_, rfl, .ref h'.objs.size, upd H h'.objs.size (.lst (out.map backV)), I1.laid (t' := tk) (fun b u e => ?_) (Nat.le_refl _)
      (show ObjOk X.prog X.w _ _ _ (.lst (out.map backV)) from ⟨hlen, out, e', vals_back h3, he'⟩), rfl, q _ _ _ (I1.hok.fresh (Nat.le_refl _)) hkeys ?_⟩
    · have hb : b < h'.objs.size := Heap.lt_size e
      rw [PyProof.Rows.sortedHeap_old (Nat.ne_of_lt hb) (by rw [size_push']; exact Nat.lt_succ_of_lt hb)]
      exact Heap.get?_push_of_some _ e
    · have := hp.map backV
      rw [ea, List.map_map] at this
      rw [List.map_map]
      exact this
noncomputable def rInTup (K : PySem.W.Frag) : R2 := fun x y H Q => ∃ d ds, Dp K H x d ∧ Dp K H y (.tuple ds) ∧ SeqAt.shaped d = true ∧ SeqAt.shaped (.tuple ds) = true ∧ d.depth ≤ 10 ∧ Q (.bl (ds.any fun z => PyData.eqv z d)) H
theorem op_inTup (hu : X.A.units + 64 < cLine) : OpR X (compareOp .In) (rInTup X.K) := by
  intro pins s σ H x y v u Q I rx ry h
  obtain ⟨d, ds, hd, he, sd, se, dd, q⟩ := h
  obtain ⟨as, r1⟩ := Dp.reads I d x v hd rx
  obtain ⟨bs, r2⟩ := Dp.reads I (.tuple ds) y u he ry
  exact SeqAt.in_tuple_reads r2 r1 (SeqAt.canLay_of_shaped se) (SeqAt.canLay_of_shaped sd) (by have := Nat.min_le_right (PyData.depthAll ds) d.depth; omega) ⟨.bl _, H, I, rfl, q⟩
noncomputable def rNotInTup (K : PySem.W.Frag) : R2 := fun x y H Q => ∃ d ds, Dp K H x d ∧ Dp K H y (.tuple ds) ∧ SeqAt.shaped d = true ∧ SeqAt.shaped (.tuple ds) = true ∧ d.depth ≤ 10 ∧ Q (.bl (!ds.any fun z => PyData.eqv z d)) H
theorem op_notInTup (hu : X.A.units + 64 < cLine) : OpR X (compareOp .NotIn) (rNotInTup X.K) := by
  intro pins s σ H x y v u Q I rx ry h
  obtain ⟨d, ds, hd, he, sd, se, dd, q⟩ := h
  obtain ⟨as, r1⟩ := Dp.reads I d x v hd rx
  obtain ⟨bs, r2⟩ := Dp.reads I (.tuple ds) y u he ry
  exact SeqAt.notIn_tuple_reads r2 r1 (SeqAt.canLay_of_shaped se) (SeqAt.canLay_of_shaped sd) (by have := Nat.min_le_right (PyData.depthAll ds) d.depth; omega) ⟨.bl _, H, I, rfl, q⟩
noncomputable def rInLst (K : PySem.W.Frag) : R2 := fun x y H Q => ∃ d ds, Dp K H x d ∧ Dp K H y (.list ds) ∧ SeqAt.shaped d = true ∧ SeqAt.shaped (.list ds) = true ∧ d.depth ≤ 10 ∧ Q (.bl (ds.any fun z => PyData.eqv z d)) H
theorem op_inLst (hu : X.A.units + 64 < cLine) : OpR X (compareOp .In) (rInLst X.K) := by
  intro pins s σ H x y v u Q I rx ry h
  obtain ⟨d, ds, hd, he, sd, se, dd, q⟩ := h
  obtain ⟨as, r1⟩ := Dp.reads I d x v hd rx
  obtain ⟨bs, r2⟩ := Dp.reads I (.list ds) y u he ry
  exact SeqAt.in_list_reads r2 r1 (SeqAt.canLay_of_shaped se) (SeqAt.canLay_of_shaped sd) (by have := Nat.min_le_right (PyData.depthAll ds) d.depth; omega) ⟨.bl _, H, I, rfl, q⟩
noncomputable def rNotInLst (K : PySem.W.Frag) : R2 := fun x y H Q => ∃ d ds, Dp K H x d ∧ Dp K H y (.list ds) ∧ SeqAt.shaped d = true ∧ SeqAt.shaped (.list ds) = true ∧ d.depth ≤ 10 ∧ Q (.bl (!ds.any fun z => PyData.eqv z d)) H
theorem op_notInLst (hu : X.A.units + 64 < cLine) : OpR X (compareOp .NotIn) (rNotInLst X.K) := by
  intro pins s σ H x y v u Q I rx ry h
  obtain ⟨d, ds, hd, he, sd, se, dd, q⟩ := h
  obtain ⟨as, r1⟩ := Dp.reads I d x v hd rx
  obtain ⟨bs, r2⟩ := Dp.reads I (.list ds) y u he ry
  exact SeqAt.notIn_list_reads r2 r1 (SeqAt.canLay_of_shaped se) (SeqAt.canLay_of_shaped sd) (by have := Nat.min_le_right (PyData.depthAll ds) d.depth; omega) ⟨.bl _, H, I, rfl, q⟩
end
end DL
set_option maxHeartbeats 4000000
namespace DL
open PySem PySem.Spec PyProof.Rows L2 HT
mutual
noncomputable def noLst : PyData → Bool
  | .list _ => false
  | .tuple xs => noLsts xs
  | .dict kvs => kvs.isEmpty
  | _ => true
noncomputable def noLsts : List PyData → Bool
  | [] => true
  | x :: xs => noLst x && noLsts xs
end
mutual
inductive DpE (K : PySem.W.Frag) (H : Hp) : V → PyData → Prop
  | non : DpE K H .non .none
  | bl (b : Bool) : DpE K H (.bl b) (.bool b)
  | int (i : Int) : DpE K H (.int i) (.int i)
  | str (x : Str) : DpE K H (.str x) (.str x)
  | lst {a : Addr} {xs : List V} {ds : List PyData} : SqL K H a xs → DpEs K H xs ds → DpE K H (.ref a) (.list ds)
  | tup {a : Addr} {xs : List V} {ds : List PyData} : SqT K H a xs → DpEs K H xs ds → DpE K H (.ref a) (.tuple ds)
  | dct {a : Addr} : Rd H a (.dT []) → DpE K H (.ref a) (.dict [])
inductive DpEs (K : PySem.W.Frag) (H : Hp) : List V → List PyData → Prop
  | nil : DpEs K H [] []
  | cons {v : V} {vs : List V} {d : PyData} {ds : List PyData} : DpE K H v d → DpEs K H vs ds → DpEs K H (v :: vs) (d :: ds)
end
section
variable {X : Cx} {pins : List (Addr × Obj)} {σ : L2.St} {H : Hp} {s : Shared}
mutual
theorem DpE.reads (I : Inv X pins σ H s) : ∀ (d : PyData) (v : V) (u : Value), DpE X.K H v d → RelV v u → ∃ as, Reads s.heap u d as ∧ (noLst d = true → sysModules ∉ as)
  | .none, _, _, h, r => by
    cases h
    cases r
    exact ⟨_, Reads.none, by simp⟩
  | .bool b, _, _, h, r => by
    cases h
    cases r
    exact ⟨_, Reads.bool b, by simp⟩
  | .int i, _, _, h, r => by
    cases h
    obtain ⟨t, rfl⟩ := r
    exact ⟨_, Reads.int i t, by simp⟩
  | .str x, _, _, h, r => by
    cases h
    obtain ⟨t, rfl⟩ := r
    exact ⟨_, Reads.str x t, by simp⟩
  | .list ds, _, _, h, r => by
    cases h with
    | lst hs ha =>
      cases r
      obtain ⟨its, rv, ⟨o, n, ho, hc, _, hd⟩, _⟩ := I.list hs
      obtain ⟨as, hr, _⟩ := DpE.readsAll I ds _ its ha rv
      exact ⟨_, Reads.list ho hc hd hr, fun z => by simp [noLst] at z⟩
  | .tuple ds, _, _, h, r => by
    cases h with
    | tup hs ha =>
      cases r
      obtain ⟨its, rv, ⟨o, ho, hc, n, hd⟩, _⟩ := I.tuple hs
      obtain ⟨as, hr, hn⟩ := DpE.readsAll I ds _ its ha rv
      exact ⟨_, Reads.tuple ho hc hd hr, fun z => hn (by simpa [noLst] using z)⟩
  | .dict kvs, _, _, h, r => by
    cases h with
    | dct hd =>
      cases r
      rename_i a
      obtain ⟨z, hs, ks, pr, o, es, ep, ho, hx, hdt, he, hn⟩ := (show ObjOk X.prog X.w H s.heap a (.dT []) from hd.ok I.hok)
      cases pr
      have hes : es.toList = [] := he
      refine ⟨_, Reads.dict (kvs := []) (as := []) (bs := []) ho hx.1 hdt (by rw [hes]; exact ReadsAll.nil) (by rw [hes]; exact ReadsAll.nil), fun _ => ?_⟩
      intro hm
      have : sysModules = a := by simpa using hm
      rw [this] at hs
      simp at hs
theorem DpE.readsAll (I : Inv X pins σ H s) : ∀ (ds : List PyData) (vs : List V) (us : List Value), DpEs X.K H vs ds → Vals vs us → ∃ as, ReadsAll s.heap us ds as ∧ (noLsts ds = true → sysModules ∉ as)
  | [], _, _, h, r => by
    cases h
    cases r
    exact ⟨_, ReadsAll.nil, by simp⟩
  | d :: ds, _, _, h, r => by
    cases h with
    | cons h1 h2 =>
      cases r with
      | cons r1 r2 =>
        obtain ⟨as, q1, n1⟩ := DpE.reads I d _ _ h1 r1
        obtain ⟨bs, q2, n2⟩ := DpE.readsAll I ds _ _ h2 r2
        refine ⟨_, ReadsAll.cons q1 q2, fun z => ?_⟩
        simp only [noLsts, Bool.and_eq_true] at z
        intro hm
        rcases List.mem_append.mp hm with h | h
        · exact n1 z.1 h
        · exact n2 z.2 h
end
end
section
variable {X : Cx} {pins : List (Addr × Obj)} {σ : L2.St} {H : Hp} {s : Shared}
mutual
theorem DpE.rk (I : Inv X pins σ H s) : ∀ (d : PyData) (v : V) (u : Value), DpE X.K H v d → RelV v u → d.showable = true → d.shown.length ≤ sizeLine → ∃ bs, ReadAtMost s.heap d.depth bs ∧ ReprK X.prog X.w bs s.heap d.depth u d.shown
  | .list ds, v, u, h, r, sh, hz => by
    obtain ⟨as, rd, _⟩ := DpE.reads I _ _ _ h r
    cases h with
    | lst hs ha =>
      cases r
      obtain ⟨its, rv, ⟨o, n, ho, hc, _, hd⟩, _⟩ := I.list hs
      have hz' : (listText (PyData.shownAll ds)).length ≤ sizeLine := by simpa only [PyData.shown] using hz
      obtain ⟨bs, hb, hk⟩ := DpE.rkAll I ds _ its ha rv (by simpa [PyData.showable] using sh) fun t ht => Nat.le_trans (listText_mem_le ht) hz'
      have hna := not_mem_of_deeper rd (show PyData.depthAll ds < (PyData.list ds).depth by simp only [PyData.depth]; omega) hb
      refine ⟨_ :: bs, ReadAtMost.cons rd (by simp only [PyData.depth]; omega) hb, ?_⟩
      simp only [PyData.depth, PyData.shown]
      cases its with
      | nil =>
        cases ds with
        | nil => simp only [PyData.shownAll, listText_nil]; exact ReprK.listEmpty ho hc hd
        | cons _ _ => cases hk
      | cons x l => exact ReprK.list ho hc hd hna (by simpa using hk.length_eq) fun i y e => hk.item i y (by simpa using e)
  | .tuple ds, v, u, h, r, sh, hz => by
    obtain ⟨as, rd, _⟩ := DpE.reads I _ _ _ h r
    cases h with
    | tup hs ha =>
      cases r
      obtain ⟨its, rv, ⟨o, ho, hc, n, hd⟩, _⟩ := I.tuple hs
      have hz' : (tupleText (PyData.shownAll ds)).length ≤ sizeLine := by simpa only [PyData.shown] using hz
      obtain ⟨bs, hb, hk⟩ := DpE.rkAll I ds _ its ha rv (by simpa [PyData.showable] using sh) fun t ht => Nat.le_trans (tupleText_mem_le ht) hz'
      have hna := not_mem_of_deeper rd (show PyData.depthAll ds < (PyData.tuple ds).depth by simp only [PyData.depth]; omega) hb
      refine ⟨_ :: bs, ReadAtMost.cons rd (by simp only [PyData.depth]; omega) hb, ?_⟩
      simp only [PyData.depth, PyData.shown]
      exact ReprK.tuple ho hc hd hna hk
  | .none, v, u, h, r, sh, hz => by
    obtain ⟨as, rd, _⟩ := DpE.reads I _ _ _ h r
    exact ReprK.of_reads rd sh (fun z => nomatch z) hz
  | .bool b, v, u, h, r, sh, hz => by
    obtain ⟨as, rd, _⟩ := DpE.reads I _ _ _ h r
    exact ReprK.of_reads rd sh (fun z => nomatch z) hz
  | .int b, v, u, h, r, sh, hz => by
    obtain ⟨as, rd, _⟩ := DpE.reads I _ _ _ h r
    exact ReprK.of_reads rd sh (fun z => nomatch z) hz
  | .str b, v, u, h, r, sh, hz => by
    obtain ⟨as, rd, _⟩ := DpE.reads I _ _ _ h r
    exact ReprK.of_reads rd sh (fun z => nomatch z) hz
  | .dict kvs, v, u, h, r, sh, hz => by
    obtain ⟨as, rd, hn⟩ := DpE.reads I _ _ _ h r
    cases h with
    | dct _ => exact ReprK.of_reads rd sh (fun _ => hn rfl) hz
theorem DpE.rkAll (I : Inv X pins σ H s) : ∀ (ds : List PyData) (vs : List V) (us : List Value), DpEs X.K H vs ds → Vals vs us → PyData.showableAll ds = true → (∀ t ∈ PyData.shownAll ds, t.length ≤ sizeLine) →
    ∃ bs, ReadAtMost s.heap (PyData.depthAll ds) bs ∧ ReprAllK X.prog X.w bs s.heap (PyData.depthAll ds) us (PyData.shownAll ds)
  | [], _, _, h, r, _, _ => by
    cases h
    cases r
    exact ⟨[], (fun _ h => nomatch h), by simp only [PyData.shownAll]; exact .nil⟩
  | d :: ds, _, _, h, r, sh, hz => by
    cases h with
    | cons h1 h2 =>
      cases r with
      | cons r1 r2 =>
        have sh' : d.showable = true ∧ PyData.showableAll ds = true := by simpa [PyData.showableAll] using sh
        obtain ⟨b1, hb1, k1⟩ := DpE.rk I d _ _ h1 r1 sh'.1 (hz _ (by simp only [PyData.shownAll]; exact List.mem_cons_self ..))
        obtain ⟨b2, hb2, k2⟩ := DpE.rkAll I ds _ _ h2 r2 sh'.2 fun t ht => hz t (by simp only [PyData.shownAll]; exact List.mem_cons_of_mem _ ht)
        have l1 : d.depth ≤ PyData.depthAll (d :: ds) := by simp only [PyData.depthAll]; omega
        have l2 : PyData.depthAll ds ≤ PyData.depthAll (d :: ds) := by simp only [PyData.depthAll]; omega
        refine ⟨b1 ++ b2, (hb1.mono l1).append (hb2.mono l2), ?_⟩
        simp only [PyData.shownAll]
        exact .cons ((k1.more fun b hb => List.mem_append_left _ hb).level_le l1) (k2.more_le (fun b hb => List.mem_append_right _ hb) l2)
end
theorem DpE.shows (I : Inv X pins σ H s) {a : Addr} {d : PyData} (h : DpE X.K H (.ref a) d) (sh : d.showable = true) (hz : d.shown.length ≤ sizeLine) : ∃ T idr, ShowsBy X.prog X.w s.heap a d T idr := by
  obtain ⟨as, rd, hn⟩ := DpE.reads I _ _ _ h (show RelV (.ref a) (.ref a) from rfl)
  cases h with
  | lst hs ha =>
    rename_i xs ds
    obtain ⟨its, rv, ⟨o, n, ho, hc, _, hd⟩, _⟩ := I.list hs
    have hz' : (listText (PyData.shownAll ds)).length ≤ sizeLine := by simpa only [PyData.shown] using hz
    obtain ⟨bs, hb, hk⟩ := DpE.rkAll I ds _ its ha rv (by simpa [PyData.showable] using sh) fun t ht => Nat.le_trans (listText_mem_le ht) hz'
    have hna := not_mem_of_deeper rd (show PyData.depthAll ds < (PyData.list ds).depth by simp only [PyData.depth]; omega) hb
    refine ⟨"list", "list.__repr__", F.slot_list_repr.toG, F.slot_list_str, F.slot_list_format, fun s' hk0 => ⟨o, hk0 _ _ ho, hc⟩, fun A E s' Q hg hu hk0 hQ => ?_⟩
    simp only [PyData.depth] at hu
    simp only [PyData.shown] at hQ
    cases its with
    | nil =>
      cases ds with
      | nil =>
        simp only [PyData.shownAll, listText_nil] at hQ
        exact call_list_repr_empty ⟨o, hk0 _ _ ho, hc⟩ (hk0 _ _ ho) hd (hQ s'.heap _ _ fun _ _ e => e)
      | cons _ _ => cases hk
    | cons x l => exact call_list_reprK ho hc hd hna (by simpa using hk.length_eq) (fun i y e => hk.item i y (by simpa using e)) hg (fun b _ => Clear.nil b) hu hk0 hQ hz'
  | tup hs ha =>
    rename_i xs ds
    obtain ⟨its, rv, ⟨o, ho, hc, n, hd⟩, _⟩ := I.tuple hs
    have hz' : (tupleText (PyData.shownAll ds)).length ≤ sizeLine := by simpa only [PyData.shown] using hz
    obtain ⟨bs, hb, hk⟩ := DpE.rkAll I ds _ its ha rv (by simpa [PyData.showable] using sh) fun t ht => Nat.le_trans (tupleText_mem_le ht) hz'
    have hna := not_mem_of_deeper rd (show PyData.depthAll ds < (PyData.tuple ds).depth by simp only [PyData.depth]; omega) hb
    refine ⟨"tuple", "tuple.__repr__", F.slot_tuple_repr, F.slot_tuple_str, F.slot_tuple_format, fun s' hk0 => ⟨o, hk0 _ _ ho, hc⟩, fun A E s' Q hg hu hk0 hQ => ?_⟩
    simp only [PyData.depth] at hu
    simp only [PyData.shown] at hQ
    exact call_tuple_reprK ho hc hd hna hk hg (fun b _ => Clear.nil b) hu hk0 hQ hz'
  | dct _ => exact showsBy_of_reads rd sh (fun _ => hn rfl) hz
end
structure RepOkE (p : PyData) : Prop where
  sh : p.showable = true
  dp : p.depth ≤ 50
  sz : p.shown.length ≤ sizeLine
section
variable {X : Cx}
theorem call_reprE (hG : X.A.guards = some []) (hu : X.A.units + 64 < cLine) : CallR X (.builtin "repr") (fun xs H Q => ∃ v d, xs = [v] ∧ DpE X.K H v d ∧ RepOkE d ∧ Q (.str d.shown) H) := by
  intro pins s σ H xs us Q I r h
  obtain ⟨v, d, rfl, hd, ok, q⟩ := h
  obtain ⟨u, rfl, ru⟩ := vals1 r
  have dep := ok.dp
  have go : ∀ (a : Addr) {Q' : Value → Shared → Prop} {E' : Value → Shared → Prop}, v = .ref a → (∀ h' t tk, (∀ b o, s.heap.get? b = some o → h'.get? b = some o) → Q' (.str d.shown t) { s with heap := h', toks := tk }) →
      wpAny (model X.prog X.w) X.A (call (.builtin "repr") [.ref a]) Q' E' s := fun a Q' E' e hQ' => by
    subst e
    obtain ⟨T, idr, S⟩ := DpE.shows I hd ok.sh ok.sz
    exact call_repr_slot (by omega) (S.typeIs s fun _ _ e => e) S.slotRepr (S.call X.A.in1 _ s _ hG (by show X.A.units + 1 + d.depth < cLine; omega) (fun _ _ e => e) fun h' t tk hk => ⟨_, _, rfl, hQ' h' t tk hk⟩)
  cases hd with
  | int i => obtain ⟨t, rfl⟩ := ru; exact PySem.P.repr_of_int (by have := ok.sh; simpa [PyData.showable] using this) ⟨.str _, H, I.tok _, ⟨_, rfl⟩, q⟩
  | lst h1 h2 => cases ru; exact go _ rfl fun h' t tk hk => ⟨.str _, H, I.kept hk, ⟨_, rfl⟩, q⟩
  | tup h1 h2 => cases ru; exact go _ rfl fun h' t tk hk => ⟨.str _, H, I.kept hk, ⟨_, rfl⟩, q⟩
  | dct h1 => cases ru; exact go _ rfl fun h' t tk hk => ⟨.str _, H, I.kept hk, ⟨_, rfl⟩, q⟩
  | non => cases ru; exact PySem.P.repr_of_none ⟨.str _, H, I.tok _, ⟨_, rfl⟩, q⟩
  | bl b => cases ru; exact PySem.P.repr_of_bool ⟨.str _, H, I.tok _, ⟨_, rfl⟩, (by cases b <;> exact q)⟩
  | str y => obtain ⟨t, rfl⟩ := ru; exact PySem.P.repr_of_str ⟨.str _, H, I.tok _, ⟨_, rfl⟩, q⟩ ok.sz
end
end DL
set_option maxHeartbeats 4000000
namespace DL
open PySem PySem.Spec PyProof.Rows L2
section
variable {X : Cx}
noncomputable def SI (k : List L2.Key) : Prop := ∃ (x : Str) (j : Int), k = [Sum.inr x, Sum.inl j]
noncomputable def rSortDS : List V → Hp → VK → Prop := fun xs H Q => ∃ d kvs, xs = [V.ref d] ∧ Rd H d (.dT kvs) ∧ (∀ p ∈ kvs, SI p.1) ∧ ∀ (p : Addr) (ys : List V) (bs : List Addr), H p = none → IsKeys H kvs bs → ys.Perm (bs.map V.ref) → Q (.ref p) (upd H p (.lst ys))
noncomputable def keyP : L2.Key → PyData
  | .inl i => .int i
  | .inr x => .str x
theorem paired_SI {H : Hp} : ∀ {kvs : List (List L2.Key × V)} {ks : List (List L2.Key × Addr × Value)}, Paired (fun (p : List L2.Key × V) (q : List L2.Key × Addr × Value) => p.1 = q.1 ∧ H q.2.1 = some (.tup (p.1.map kV)) ∧ RelV p.2 q.2.2) kvs ks → (∀ p ∈ kvs, SI p.1) → ∀ x ∈ ks, ∃ (y : Str) (j : Int), x.1 = [Sum.inr y, Sum.inl j] ∧ H x.2.1 = some (.tup [.str y, .int j])
  | _, _, .nil, _, x, hx => absurd hx (by simp)
  | p :: kvs, c :: ks, .cons h t, hp, x, hx => by
    rcases List.mem_cons.mp hx with rfl | hx
    · obtain ⟨i, j, e⟩ := hp p (List.mem_cons_self ..)
      obtain ⟨h1, h2, _⟩ := h
      rw [e] at h1 h2
      exact ⟨i, j, h1.symm, h2⟩
    · exact paired_SI t (fun q hq => hp q (List.mem_cons_of_mem _ hq)) x hx
noncomputable def encK (x : List L2.Key × Addr × Value) : PyData := .tuple (x.1.map keyP)
theorem each_ref {α : Type} (g : α → Addr) : ∀ {out : List Value} {bs : List α}, PySem.W.EachIs (fun v x => v = Value.ref (g x)) out bs → out = bs.map fun x => Value.ref (g x)
  | _, _, .nil => rfl
  | _, _, .cons h t => by rw [h, each_ref g t]; rfl
theorem each_of {α β : Type} {R : α → β → Prop} (f : β → α) : ∀ (bs : List β), (∀ b ∈ bs, R (f b) b) → PySem.W.EachIs R (bs.map f) bs
  | [], _ => .nil
  | b :: bs, h => .cons (h b (List.mem_cons_self ..)) (each_of f bs fun x hx => h x (List.mem_cons_of_mem _ hx))
theorem cr_sortedDS (hc : X.calm = true) (hu : X.A.units + 64 < cLine) : CallR X (.builtin "sorted") rSortDS := by
  intro pins s σ H xs us Q I r h
  obtain ⟨d, kvs, rfl, hd, hpair, q⟩ := h
  obtain ⟨u, rfl, rx⟩ := r.one
  cases rx
  obtain ⟨z, hs, ks, pr, o, es, ep, ho, hx, hdt, he, hn⟩ := (show ObjOk X.prog X.w H s.heap d (.dT kvs) from hd.ok I.hok)
  have l1 : es.size = ks.length := size_of_entries he
  have l2 : kvs.length = ks.length := Paired.length pr
  refine Calls.call_function_entry PyProof.Rows.kind_sorted PyProof.Rows.plain_sorted PyProof.Rows.entry_sorted (PyProof.Rows.args_sorted1 _) ?_
  unfold Builtin.«sorted»
  refine wpAny_bind (m := checkCount "sorted" 1 1 _) (wpAny_pure ?_)
  refine wpAny_bind (PySem.W.kdu_collect (A := X.A.in1) (kdl_raw hs hx hdt) (I.ok.hd hc) ho (by omega) fun h' tk acc' kp it => ?_)
  have ea : acc'.toList = ks.map fun x => Value.ref x.2.1 := by
    have hl : acc'.toList.length = ks.length := by rw [Array.length_toList, it.1]; exact l1
    apply List.ext_getElem?
    intro j
    rw [List.getElem?_map]
    cases hj : acc'.toList[j]? with
    | none =>
      have h1 := List.getElem?_eq_none_iff.mp hj
      rw [List.getElem?_eq_none (by omega)]
      all_goals rfl
    | some v =>
      obtain ⟨en, hen, hv⟩ := it.2 j v (by rw [← Array.getElem?_toList]; exact hj)
      have qe := entry_at he j
      rw [hen] at qe
      cases hb : ks[j]? with
      | none =>
        rw [hb] at qe
        exact nomatch (show some en = none from qe)
      | some b =>
        rw [hb] at qe
        have e2 : en = entryOfKey (tupleKind (mixKind X.prog X.w)) b := Option.some.inj qe
        rw [hv, e2]
        all_goals rfl
  have hl : acc'.toList.length = ks.length := by rw [ea, List.length_map]
  have hz : acc'.toList.length ≤ sizeLine := by omega
  have I1 : Inv X pins σ H { s with heap := h', toks := tk } := I.kept kp
  have hkeys := isKeys_of pr
  have hrefs : ∀ v ∈ acc'.toList, ∃ a, v = Value.ref a := fun v hv => by
    rw [ea] at hv
    obtain ⟨x, _, rfl⟩ := List.mem_map.mp hv
    exact ⟨_, rfl⟩
  have hSI := paired_SI pr hpair
  have hrd : ∀ x ∈ ks, ∀ h2 : Heap, (∀ b o, h'.get? b = some o → h2.get? b = some o) → Reads h2 (.ref x.2.1) (encK x) [] := fun x hx h2 k2 => by
    obtain ⟨y, j, e1, ht⟩ := hSI x hx
    obtain ⟨_, its2, r2, o, ho, hc, n, hd⟩ := I1.hok _ _ ht
    obtain ⟨u1, u2, rfl, ri, rj⟩ := vals2 r2
    obtain ⟨t1, rfl⟩ := ri
    obtain ⟨t2, rfl⟩ := rj
    unfold encK
    rw [e1]
    exact .tuple (k2 _ _ ho) hc hd (.cons (.str _ _) (.cons (.int _ _) .nil))
  have hal : PySem.W.AllAlike (ks.map encK) := fun d hd d' hd' => by
    obtain ⟨x, hx, rfl⟩ := List.mem_map.mp hd
    obtain ⟨x', hx', rfl⟩ := List.mem_map.mp hd'
    obtain ⟨y, j, e1, _⟩ := hSI x hx
    obtain ⟨y', j', e2, _⟩ := hSI x' hx'
    unfold encK
    rw [e1, e2]; rfl
  have hsr : PySem.W.Sortable (ks.map encK) := .inl fun d hd => by
    obtain ⟨x, hx, rfl⟩ := List.mem_map.mp hd
    obtain ⟨y, j, e1, _⟩ := hSI x hx
    unfold encK
    rw [e1]; exact ⟨_, _, rfl⟩
  refine wpAny_bind (wpAny_newList ?_ hz)
  have hoL : (h'.push (seqObj "list" acc'.toList.toArray 0)).get? h'.objs.size = some (seqObj "list" acc'.toList.toArray 0) := Heap.get?_push_size _ rfl
  have kL : ∀ b o, h'.get? b = some o → (h'.push (seqObj "list" acc'.toList.toArray 0)).get? b = some o := fun b o e => Heap.get?_push_of_some _ e
  show wpAny _ _ _ _ _ { s with heap := h'.push (seqObj "list" acc'.toList.toArray 0), toks := tk }
  have e1 : PySem.W.EachIs (fun (v : Value) (x : List L2.Key × Addr × Value) => v = Value.ref x.2.1) acc'.toList ks := by rw [ea]; exact each_of (R := fun (v : Value) (x : List L2.Key × Addr × Value) => v = Value.ref x.2.1) (fun x => Value.ref x.2.1) ks fun _ _ => rfl
  have e2 : PySem.W.EachIs (fun (v : Value) (x : List L2.Key × Addr × Value) => ∃ as, Reads (h'.push (seqObj "list" acc'.toList.toArray 0)) v (encK x) as ∧ h'.objs.size ∉ as) acc'.toList ks := by
    have := each_of (R := fun (v : Value) (x : List L2.Key × Addr × Value) => ∃ as, Reads (h'.push (seqObj "list" acc'.toList.toArray 0)) v (encK x) as ∧ h'.objs.size ∉ as) (fun x => Value.ref x.2.1) ks fun x hx => ⟨[], hrd x hx _ kL, by simp⟩
    rw [← ea] at this; exact this
  refine wpAny_bind (wpAny_holding (PySem.W.list_sort_data (s := { s with heap := h'.push (seqObj "list" acc'.toList.toArray 0), toks := tk }) (R := fun v x => v = Value.ref x.2.1) (bs := ks) (enc := encK) hoL e1 e2 hal hsr (by omega) (fun x hx => ?_) fun out hlo hE => ?_))
  · obtain ⟨y, j, e1, _⟩ := hSI x hx
    unfold encK
    rw [e1]
    have h1 : (PyData.tuple ([Sum.inr y, Sum.inl j].map keyP)).depth ≤ 5 := Nat.le_of_ble_eq_true rfl
    have h2 : X.A.in1.units = X.A.units + 1 := rfl
    omega
  · have eo := each_ref (fun x : List L2.Key × Addr × Value => x.2.1) hE
    have hp : out.Perm acc'.toList := by rw [ea, eo]; exact (List.mergeSort_perm ks _).map _
    have h3 : ∀ u ∈ out, ∃ a, u = Value.ref a := fun u hu => hrefs u (hp.mem_iff.mp hu)
    obtain ⟨e', he'⟩ := PyProof.Rows.sortedHeap_at (vs := acc'.toList) (out := out.toArray) hoL
    have hlen : (out.map backV).length ≤ sizeLine := by rw [List.length_map, hp.length_eq]; exact hz
    refine wpAny_pure ⟨_, rfl, .ref h'.objs.size, upd H h'.objs.size (.lst (out.map backV)), I1.laid (t' := tk) (fun b u e => ?_) (Nat.le_refl _)
      (show ObjOk X.prog X.w _ _ _ (.lst (out.map backV)) from ⟨hlen, out, e', vals_back h3, he'⟩), rfl, q _ _ _ (I1.hok.fresh (Nat.le_refl _)) hkeys ?_⟩
    · have hb : b < h'.objs.size := Heap.lt_size e
      rw [PyProof.Rows.sortedHeap_old (Nat.ne_of_lt hb) (by rw [size_push']; exact Nat.lt_succ_of_lt hb)]
      exact Heap.get?_push_of_some _ e
    · have := hp.map backV
      rw [ea, List.map_map] at this
      rw [List.map_map]
      exact this
end
noncomputable def tDisp1 (tk tv : TE) : TE := fun σ H Q => ∀ p, H p = none → tk σ (upd H p (.dT [])) fun x H1 => tv σ H1 fun y H2 => H2 p = some (.dT []) ∧ ∃ b ks, x = .ref b ∧ H2 b = some (.tup (ks.map kV)) ∧ Q (.ref p) (upd H2 p (.dT [(ks, y)]))
theorem pe_disp1 {X : Cx} {k v : Expr} {pos : Pos} {tk tv : TE} (hu : X.A.units + 64 < cLine) (hk : PE X k tk) (hv : PE X v tv) : PE X (.Dict [some k] [v] pos) (tDisp1 tk tv) := by
  refine ⟨fun pins s σ H Q I q => ?_⟩
  have hn := I.hok.fresh (Nat.le_refl s.heap.objs.size)
  have I1 := I.laid (a := s.heap.objs.size) (o := .dT []) (h' := s.heap.push { cls := .type "dict", data := .dict #[] }) (t' := s.toks) (fun _ _ q => Heap.get?_push_of_some _ q) (Nat.le_refl _) (dt_empty s.heap I.big)
  rw [arm_eval_Dict, zip_pairTrees [some k] [v] X.env pos rfl rfl, dictDisplay_pairs _ (by simp [pairTrees]) (by simp [pairTrees])]
  refine wpAny_bind (wpAny_standAt (wpAny_bind (wpAny_subDictH (knd := tupleKind (mixKind X.prog X.w)) (Q := fun d s' => wpAny (model X.prog X.w) X.A (pure (Value.ref d)) (EP X pins σ Q) X.xe s') ?_ (by simp [pairTrees]) ?_)))
  · show X.A.units < cLine
    omega
  refine pairTrees_cons_walk (thn (hk.run pins _ σ _ _ I1 (q _ hn)) fun u s1 ⟨x, H1, I2, rx, q1⟩ => thn (hv.run pins s1 σ H1 _ I2 q1) fun w2 s2 ⟨y, H2, I3, ry, q2⟩ => pairTrees_nil_walk ?_)
  obtain ⟨e, b, ks, rfl, eb, q3⟩ := q2
  cases (show u = Value.ref b from rx)
  obtain ⟨z, hd, xs, rel, dd⟩ := dt_of I3.hok e
  cases rel
  refine ⟨[(ks, b, w2)], ⟨rfl, rfl, key_of I3.hok eb, trivial⟩, dd, fun h' tk dd' hs => wpAny_pure ?_⟩
  obtain ⟨o, es, ep, hq, h2, h3, h4, _, h5⟩ := dd'
  refine ⟨.ref s.heap.objs.size, upd H2 s.heap.objs.size (.dT [(ks, y)]), d_write (t' := tk) (ob := .dT [(ks, y)]) I3 (by rw [e]; exact True.intro) hs ⟨o, hq⟩ ⟨by show 1 ≤ sizeLine; decide, hd, [(ks, b, w2)], .cons ⟨rfl, ?_, ry⟩ .nil, o, es, ep, hq, h2, h3, h4, h5⟩, rfl, q3⟩
  rw [upd_ne (ne_of eb e (fun z => nomatch z))]
  exact eb
end DL
set_option maxHeartbeats 4000000
namespace DL
open PySem PySem.Spec PyProof.Rows L2
section
variable {X : Cx}
noncomputable def rSortTI (K : PySem.W.Frag) : List V → Hp → VK → Prop := fun vs H Q => ∃ (a : Addr) (ns : List Int), vs = [V.ref a] ∧ SqT K H a (ns.map V.int) ∧
  ∀ (ns' : List Int) (p : Addr), ns'.Perm ns → ns'.Pairwise (· ≤ ·) → H p = none → Q (.ref p) (upd H p (.lst (ns'.map V.int)))
theorem cr_sortedTI : CallR X (.builtin "sorted") (rSortTI X.K) := by
  intro pins s σ H xs us Q I r h
  obtain ⟨a, ns, rfl, hs, q⟩ := h
  obtain ⟨u, rfl, rx⟩ := r.one
  cases rx
  obtain ⟨its, rv, pl, hz⟩ := I.tuple hs
  have hi := rv.ints
  have hlen := rv.length
  obtain ⟨o, ho, hc, n, hd⟩ := pl
  have hz' : its.length ≤ sizeLine := by omega
  refine Calls.call_function_entry PyProof.Rows.kind_sorted PyProof.Rows.plain_sorted PyProof.Rows.entry_sorted (PyProof.Rows.args_sorted1 _) ?_
  unfold Builtin.«sorted»
  refine wpAny_bind (m := checkCount "sorted" 1 1 _) (wpAny_pure ?_)
  refine wpAny_bind (wpAny_collect_seq a (.inr rfl) ho hc hd (fun h' kp => ?_) (by simpa using hz'))
  have I1 : Inv X pins σ H { s with heap := h' } := I.kept (t' := s.toks) kp
  refine wpAny_bind (wpAny_newList ?_ hz')
  have hoL : (h'.push (seqObj "list" its.toArray 0)).get? h'.objs.size = some (seqObj "list" its.toArray 0) := Heap.get?_push_size _ rfl
  show wpAny _ _ _ _ _ { s with heap := h'.push (seqObj "list" its.toArray 0) }
  refine wpAny_bind (wpAny_holding (wpAny_call_entry PyProof.Rows.slot_list_sort ⟨_, hoL, rfl⟩ PyProof.Rows.entry_list_sort
    (SrtO.list_sort_ord (s := { s with heap := h'.push (seqObj "list" its.toArray 0) }) SrtO.swo_int hoL hz' (fun h2 => SrtO.ints_sortable hi h2) fun out hs hb => ⟨_, rfl, ?_⟩)
    (PyProof.Rows.args_list_sort _)))
  obtain ⟨k1, k2, k3⟩ := SrtO.ints_out hi hs hb
  obtain ⟨e', he'⟩ := PyProof.Rows.sortedHeap_at (vs := its) (out := out.toArray) hoL
  have hl2 : ((out.map SrtO.iv).map V.int).length ≤ sizeLine := by
    rw [List.length_map, k2.length_eq]
    rw [List.length_map] at hlen
    omega
  refine wpAny_pure ⟨_, rfl, .ref h'.objs.size, upd H h'.objs.size (.lst ((out.map SrtO.iv).map V.int)), I1.laid (t' := s.toks) (fun b u e => ?_) (Nat.le_refl _)
    (show ObjOk X.prog X.w _ _ _ (.lst ((out.map SrtO.iv).map V.int)) from ⟨hl2, out, e', vals_of_ints k1, he'⟩), rfl, q _ _ k2 k3 (I1.hok.fresh (Nat.le_refl _))⟩
  have hb : b < h'.objs.size := Heap.lt_size e
  rw [PyProof.Rows.sortedHeap_old (Nat.ne_of_lt hb) (by rw [size_push']; exact Nat.lt_succ_of_lt hb)]
  exact Heap.get?_push_of_some _ e
noncomputable def encI (b : V × List Int) : PyData := .tuple (b.2.map PyData.int)
noncomputable def rSortLT (K : PySem.W.Frag) : List V → Hp → VK → Prop := fun vs H Q => ∃ (a : Addr) (bs : List (V × List Int)), vs = [V.ref a] ∧ SqL K H a (bs.map (·.1)) ∧ (∀ b ∈ bs, b.2 ≠ [] ∧ Dp K H b.1 (encI b)) ∧
  ∀ (bs' : List (V × List Int)) (p : Addr), bs'.Perm bs → bs'.Pairwise (fun x y => x.2 ≤ y.2) → H p = none → Q (.ref p) (upd H p (.lst (bs'.map (·.1))))
theorem eachI : ∀ {bs : List (V × List Int)} {its : List Value}, Vals (bs.map (·.1)) its → PySem.W.EachIs (fun v (b : V × List Int) => RelV b.1 v) its bs
  | [], _, h => by cases h; exact .nil
  | _ :: _, _, h => by cases h with | cons a b => exact .cons a (eachI b)
theorem valsI : ∀ {bs : List (V × List Int)} {out : List Value}, PySem.W.EachIs (fun v (b : V × List Int) => RelV b.1 v) out bs → Vals (bs.map (·.1)) out
  | _, _, .nil => .nil
  | _, _, .cons a b => .cons a (valsI b)
theorem alike_i : ∀ a b : List Int, PySem.W.alikeAll (a.map PyData.int) (b.map PyData.int) = true
  | [], _ => rfl
  | _ :: _, [] => rfl
  | x :: a, y :: b => by
    simp only [List.map_cons]
    rw [PySem.W.alikeAll, alike_i a b]; rfl
theorem depth_i : ∀ xs : List Int, PyData.depthAll (xs.map PyData.int) = 0
  | [] => rfl
  | x :: xs => by simp only [List.map_cons, PyData.depthAll, PyData.depth, depth_i xs]; rfl
theorem le_i (a b : V × List Int) : PySem.W.dataLe false encI a b = decide (a.2 ≤ b.2) := by
  show (!PySem.W.dataLt (.tuple (b.2.map .int)) (.tuple (a.2.map .int))) = _
  rw [PySem.W.dataLt_tuple]
  show (!PySem.W.rowLt (b.2.map .int) (a.2.map .int)) = _
  rw [PySem.W.dataLt_ints]
  by_cases h : b.2 < a.2
  · have h' : ¬ a.2 ≤ b.2 := fun r => List.not_lt.mpr r h
    simp [h, h']
  · have h' : a.2 ≤ b.2 := List.not_lt.mp h
    simp [h, h']
theorem cr_sortedLT (hu : X.A.units + 64 < cLine) : CallR X (.builtin "sorted") (rSortLT X.K) := by
  intro pins s σ H xs us Q I r h
  obtain ⟨a, bs, rfl, hs, hb, q⟩ := h
  obtain ⟨its, rv, hl, hz⟩ := I.list hs
  rw [Vals.ref1 r]
  have er : ∀ {bs : List (V × List Int)} {its : List Value}, Vals (bs.map (·.1)) its → (∀ b ∈ bs, Dp X.K H b.1 (encI b)) → PySem.W.EachIs (fun v b => ∃ as, Reads s.heap v (encI b) as) its bs := by
    intro bs
    induction bs with
    | nil => intro its h _; cases h; exact .nil
    | cons b bs ih =>
      intro its h hd
      cases h with
      | cons h1 h2 => exact .cons (Dp.reads I _ _ _ (hd b (List.mem_cons_self ..)) h1) (ih h2 fun c hc => hd c (List.mem_cons_of_mem _ hc))
  have hal : PySem.W.AllAlike (bs.map encI) := fun d hd d' hd' => by
    obtain ⟨b, _, rfl⟩ := List.mem_map.mp hd
    obtain ⟨b', _, rfl⟩ := List.mem_map.mp hd'
    show PySem.W.alike (.tuple _) (.tuple _) = true
    rw [PySem.W.alike]
    exact alike_i _ _
  have hk : PySem.W.Sortable (bs.map encI) := .inl fun d hd => by
    obtain ⟨b, h1, rfl⟩ := List.mem_map.mp hd
    have := (hb b h1).1
    unfold encI
    cases hb2 : b.2 with
    | nil => exact absurd hb2 this
    | cons x r => exact ⟨_, _, rfl⟩
  rw [List.length_map] at hz
  refine PySem.W.sorted_data (enc := encI) hl.isList (eachI rv) (er rv fun b h => (hb b h).2) hal hk hz (fun b _ => ?_) fun out hlo he => ?_
  · have : (encI b).depth ≤ 1 := by
      unfold encI
      simp only [PyData.depth, depth_i]
      omega
    omega
  · obtain ⟨ep, he'⟩ := PyProof.Rows.sortedAll_at s.heap its out.toArray
    have hp : (bs.mergeSort (PySem.W.dataLe false encI)).Perm bs := List.mergeSort_perm _ _
    have hpw : (bs.mergeSort (PySem.W.dataLe false encI)).Pairwise fun x y => x.2 ≤ y.2 := by
      have := PySem.W.sort_pairwise (le := PySem.W.dataLe false encI) (PySem.W.sortLe_total (PyProof.Rows.listOrd PyProof.Rows.itemOrd) false fun b => PySem.W.keyToks (encI b)) bs
      exact this.imp fun {x y} h => by
        have h2 : PySem.W.dataLe false encI x y = true := h
        rw [le_i] at h2
        exact of_decide_eq_true h2
    have hlen : ((bs.mergeSort (PySem.W.dataLe false encI)).map (·.1)).length ≤ sizeLine := by
      rw [List.length_map, hp.length_eq]; exact hz
    exact ⟨.ref _, upd H (s.heap.objs.size + 1) (.lst ((bs.mergeSort (PySem.W.dataLe false encI)).map (·.1))), I.laid (t' := s.toks) (fun _ _ => PyProof.Rows.sortedAll_old) (Nat.le_succ _) ⟨hlen, out, ep, valsI he, he'⟩, rfl, q _ _ hp hpw (I.hok.fresh (Nat.le_succ _))⟩
end
end DL
set_option maxHeartbeats 4000000
namespace DL
open PySem PySem.Spec PyProof.Rows L2
section
variable {X : Cx}
noncomputable def kI (k : List L2.Key) : List Int := k.filterMap fun x => match x with | .inl i => some i | .inr _ => none
noncomputable def rSortDP : List V → Hp → VK → Prop := fun xs H Q => ∃ d kvs, xs = [V.ref d] ∧ Rd H d (.dT kvs) ∧ (∀ p ∈ kvs, ∃ i j : Int, p.1 = [Sum.inl i, Sum.inl j]) ∧
  ∀ (p : Addr) (bs bs' : List (V × List Int)), H p = none → bs.map (·.2) = kvs.map (fun q => kI q.1) → (∀ b ∈ bs, ∃ a, b.1 = V.ref a ∧ H a = some (.tup (b.2.map V.int))) → bs'.Perm bs → bs'.Pairwise (fun x y => x.2 ≤ y.2) → Q (.ref p) (upd H p (.lst (bs'.map (·.1))))
theorem each_maps {α β : Type} {R : Value → β → Prop} {f : α → Value} {g : α → β} : ∀ {l : List α}, (∀ x ∈ l, R (f x) (g x)) → PySem.W.EachIs R (l.map f) (l.map g)
  | [], _ => .nil
  | x :: l, h => .cons (h x (List.mem_cons_self ..)) (each_maps fun y hy => h y (List.mem_cons_of_mem _ hy))
theorem paired_keys {α β γ : Type} {R : α → β → Prop} {f : α → γ} {g : β → γ} (hR : ∀ a b, R a b → f a = g b) : ∀ {xs : List α} {ys : List β}, Paired R xs ys → xs.map f = ys.map g
  | _, _, .nil => rfl
  | _, _, .cons h t => by rw [List.map_cons, List.map_cons, hR _ _ h, paired_keys hR t]
theorem paired_mem {α β : Type} {R : α → β → Prop} : ∀ {xs : List α} {ys : List β}, Paired R xs ys → ∀ y ∈ ys, ∃ x ∈ xs, R x y
  | _, _, .cons h t, y, hy => by
    rcases List.mem_cons.mp hy with rfl | hy
    · exact ⟨_, List.mem_cons_self .., h⟩
    · obtain ⟨x, hx, q⟩ := paired_mem t y hy
      exact ⟨x, List.mem_cons_of_mem _ hx, q⟩
theorem cr_sortedDP (hc : X.calm = true) (hu : X.A.units + 64 < cLine) : CallR X (.builtin "sorted") rSortDP := by
  intro pins s σ H xs us Q I r h
  obtain ⟨d, kvs, rfl, hd, hpair, q⟩ := h
  obtain ⟨u, rfl, rx⟩ := r.one
  cases rx
  obtain ⟨z, hs, ks, pr, o, es, ep, ho, hx, hdt, he, hn⟩ := (show ObjOk X.prog X.w H s.heap d (.dT kvs) from hd.ok I.hok)
  have l1 : es.size = ks.length := size_of_entries he
  have l2 : kvs.length = ks.length := Paired.length pr
  refine Calls.call_function_entry PyProof.Rows.kind_sorted PyProof.Rows.plain_sorted PyProof.Rows.entry_sorted (PyProof.Rows.args_sorted1 _) ?_
  unfold Builtin.«sorted»
  refine wpAny_bind (m := checkCount "sorted" 1 1 _) (wpAny_pure ?_)
  refine wpAny_bind (PySem.W.kdu_collect (A := X.A.in1) (kdl_raw hs hx hdt) (I.ok.hd hc) ho (by omega) fun h' tk acc' kp it => ?_)
  have ea : acc'.toList = ks.map fun x => Value.ref x.2.1 := by
    have hl : acc'.toList.length = ks.length := by rw [Array.length_toList, it.1]; exact l1
    apply List.ext_getElem?
    intro j
    rw [List.getElem?_map]
    cases hj : acc'.toList[j]? with
    | none =>
      have h1 := List.getElem?_eq_none_iff.mp hj
      rw [List.getElem?_eq_none (by omega)]
      all_goals rfl
    | some v =>
      obtain ⟨en, hen, hv⟩ := it.2 j v (by rw [← Array.getElem?_toList]; exact hj)
      have qe := entry_at he j
      rw [hen] at qe
      cases hb : ks[j]? with
      | none =>
        rw [hb] at qe
        exact nomatch (show some en = none from qe)
      | some b =>
        rw [hb] at qe
        have e2 : en = entryOfKey (tupleKind (mixKind X.prog X.w)) b := Option.some.inj qe
        rw [hv, e2]
        all_goals rfl
  have hlk : acc'.toList.length = ks.length := by rw [ea, List.length_map]
  have hz : acc'.toList.length ≤ sizeLine := by omega
  have I1 : Inv X pins σ H { s with heap := h', toks := tk } := I.kept kp
  have hkey : ∀ x ∈ ks, ∃ i j : Int, x.1 = [Sum.inl i, Sum.inl j] ∧ H x.2.1 = some (.tup [.int i, .int j]) := fun x hx => by
    obtain ⟨p, hp, e1, e2, _⟩ := paired_mem pr x hx
    obtain ⟨i, j, e⟩ := hpair p hp
    rw [e] at e1 e2
    exact ⟨i, j, e1.symm, e2⟩
  refine wpAny_bind (wpAny_newList ?_ hz)
  have hoL : (h'.push (seqObj "list" acc'.toList.toArray 0)).get? h'.objs.size = some (seqObj "list" acc'.toList.toArray 0) := Heap.get?_push_size _ rfl
  show wpAny _ _ _ _ _ { s with heap := h'.push (seqObj "list" acc'.toList.toArray 0), toks := tk }
  have hbs : (ks.map fun x => (V.ref x.2.1, kI x.1)).map (·.2) = kvs.map (fun q => kI q.1) := by
    rw [List.map_map]
    exact (paired_keys (f := fun p : List L2.Key × V => kI p.1) (g := fun y => kI y.1) (fun a b hab => by rw [hab.1]) pr).symm
  have hbt : ∀ b ∈ ks.map fun x => (V.ref x.2.1, kI x.1), ∃ a, b.1 = V.ref a ∧ H a = some (.tup (b.2.map V.int)) := fun b hb => by
    obtain ⟨x, hx, rfl⟩ := List.mem_map.mp hb
    obtain ⟨i, j, e1, e2⟩ := hkey x hx
    refine ⟨_, rfl, ?_⟩
    show H x.2.1 = some (.tup ((kI x.1).map V.int))
    rw [e1]
    exact e2
  have er : PySem.W.EachIs (fun v b => ∃ as, Reads (h'.push (seqObj "list" acc'.toList.toArray 0)) v (encI b) as ∧ h'.objs.size ∉ as) acc'.toList (ks.map fun x => (V.ref x.2.1, kI x.1)) := by
    rw [ea]
    refine each_maps fun x hx => ?_
    obtain ⟨i, j, e1, e2⟩ := hkey x hx
    obtain ⟨_, its2, r2, o2, ho2, hc2, n2, hd2⟩ := I1.hok _ _ e2
    obtain ⟨u1, u2, rfl, ri, rj⟩ := vals2 r2
    obtain ⟨t1, rfl⟩ := ri
    obtain ⟨t2, rfl⟩ := rj
    have e3 : encI (V.ref x.2.1, kI x.1) = .tuple [.int i, .int j] := by
      show PyData.tuple ((kI x.1).map PyData.int) = _
      rw [e1]
      rfl
    obtain ⟨as, hr, hn⟩ : ∃ as, Reads (h'.push (seqObj "list" (ks.map fun x => Value.ref x.2.1).toArray 0)) (.ref x.2.1) (.tuple [.int i, .int j]) as ∧ h'.objs.size ∉ as :=
      ⟨_, Reads.tuple (Heap.get?_push_of_some _ ho2) hc2 hd2 (.cons (.int i t1) (.cons (.int j t2) .nil)), by simp⟩
    exact ⟨as, by rw [e3]; exact hr, hn⟩
  have rv : Vals ((ks.map fun x => (V.ref x.2.1, kI x.1)).map (·.1)) acc'.toList := by
    rw [ea]
    clear hlk hz hkey hbs hbt er it ea he pr l1 l2 hn
    induction ks with
    | nil => exact .nil
    | cons x ks ih => exact .cons rfl ih
  have hal : PySem.W.AllAlike ((ks.map fun x => (V.ref x.2.1, kI x.1)).map encI) := fun d hd d' hd' => by
    obtain ⟨b, _, rfl⟩ := List.mem_map.mp hd
    obtain ⟨b', _, rfl⟩ := List.mem_map.mp hd'
    show PySem.W.alike (.tuple _) (.tuple _) = true
    rw [PySem.W.alike]
    exact alike_i _ _
  have hk : PySem.W.Sortable ((ks.map fun x => (V.ref x.2.1, kI x.1)).map encI) := .inl fun d hd => by
    obtain ⟨b, h1, rfl⟩ := List.mem_map.mp hd
    obtain ⟨x, hx, rfl⟩ := List.mem_map.mp h1
    obtain ⟨i, j, e1, _⟩ := hkey x hx
    unfold encI
    show ∃ _ _, PyData.tuple ((kI x.1).map PyData.int) = _
    rw [e1]
    exact ⟨_, _, rfl⟩
  have hdp : ∀ b : V × List Int, (encI b).depth ≤ 1 := fun b => by
    unfold encI
    simp only [PyData.depth, depth_i]
    omega
  generalize hB : (ks.map fun x => (V.ref x.2.1, kI x.1)) = bs at *
  have hbl : bs.length = ks.length := by rw [← hB, List.length_map]
  refine wpAny_bind (wpAny_holding (PySem.W.list_sort_data (enc := encI) hoL (eachI rv) er hal hk (by omega) (fun b _ => ?_) fun out hlo he => ?_))
  · have := hdp b
    show X.A.in1.units + 1 + _ < _
    have e : X.A.in1.units = X.A.units + 1 := rfl
    omega
  · obtain ⟨e', he'⟩ := PyProof.Rows.sortedHeap_at (vs := acc'.toList) (out := out.toArray) hoL
    have hp : (bs.mergeSort (PySem.W.dataLe false encI)).Perm bs := List.mergeSort_perm _ _
    have hpw : (bs.mergeSort (PySem.W.dataLe false encI)).Pairwise fun x y => x.2 ≤ y.2 := by
      have := PySem.W.sort_pairwise (le := PySem.W.dataLe false encI) (PySem.W.sortLe_total (PyProof.Rows.listOrd PyProof.Rows.itemOrd) false fun b => PySem.W.keyToks (encI b)) bs
      exact this.imp fun {x y} h => by
        have h2 : PySem.W.dataLe false encI x y = true := h
        rw [le_i] at h2
        exact of_decide_eq_true h2
    have hlen : ((bs.mergeSort (PySem.W.dataLe false encI)).map (·.1)).length ≤ sizeLine := by
      rw [List.length_map, hp.length_eq]; omega
    refine wpAny_pure ⟨_, rfl, .ref h'.objs.size, upd H h'.objs.size (.lst ((bs.mergeSort (PySem.W.dataLe false encI)).map (·.1))), I1.laid (t' := tk) (fun b u e => ?_) (Nat.le_refl _)
      (show ObjOk X.prog X.w _ _ _ (.lst _) from ⟨hlen, out, e', valsI he, he'⟩), rfl, q _ _ _ (I1.hok.fresh (Nat.le_refl _)) hbs hbt hp hpw⟩
    have hb : b < h'.objs.size := Heap.lt_size e
    rw [PyProof.Rows.sortedHeap_old (Nat.ne_of_lt hb) (by rw [size_push']; exact Nat.lt_succ_of_lt hb)]
    exact Heap.get?_push_of_some _ e
end
end DL
namespace PySem.SeqAt
open AutoSeq1 (wpAny_loadPart')
open MeetsSeq MeetsSeq2 MeetsSeq3
end PySem.SeqAt
namespace PySem.SeqAt
open PySem PySem.Calls PyProof.Rows PyProof.V PySem.Spec
end PySem.SeqAt
namespace DL
open PySem PySem.Spec PyProof.Rows L2
end DL
set_option maxHeartbeats 4000000
namespace DL
open PySem PySem.Spec PyProof.Rows L2
noncomputable abbrev lamArgs (pa : Pos) : Arguments := { posonlyargs := [], args := [{ arg := "one", annotation := none, pos := pa }], vararg := none, kwonlyargs := [], kw_defaults := [], kwarg := none, defaults := [] }
noncomputable abbrev lamBody (p1 p2 p3 : Pos) : Expr := .Call (.Name "abs" p1) [.Name "one" p2] [] p3
noncomputable abbrev lamScope : Scope := { kind := .function, names := [(Str.ofString "one", .local), (Str.ofString "abs", .globalImplicit)], isGenerator := false, isCoroutine := false, more := [] }
noncomputable abbrev lamObj (q : Str) (pa p1 p2 p3 : Pos) (pm : Value) (c' : Addr) (ctv : Value) : Obj := PySem.W.kla_obj "<lambda>" q (lamArgs pa) (lamBody p1 p2 p3) lamScope [] pm c' ctv
/-- a call of it keeps all that was there -/
theorem lam_turn {prog : Program} {w : World} {A : Around} {s : Shared} {f c' : Addr} {q : Str} {pm ctv : Value} {pa p1 p2 p3 : Pos} {n : Int} {t : Tok} {mg mb : Str → Option Value} (hd : A.depth < recursionLimit)
    (hf : s.heap.get? f = some (lamObj q pa p1 p2 p3 pm c' ctv)) (hcode : s.heap.CodeRec (.ref c') q) (lim : s.heap.NoLimit) (gns : s.heap.Ns mainGlobals mg) (hm : mg "abs" = none) (bns : s.heap.Ns builtinsNs mb) (hb : mb "abs" = some (.builtin "abs")) :
    wpAny (model prog w) A (call (.ref f) [.int n t]) (PySem.W.KeyPure (.int (if n < 0 then -n else n)) s) (fun _ _ => False) s := by
  refine wpAny_call ?_
  refine PySem.W.kla_callFunE hd hf rfl rfl rfl rfl hcode ?_
  have hbind : bindArgs (PySem.W.kla_fn "<lambda>" q (lamArgs pa) (lamBody p1 p2 p3) lamScope [] pm (.ref c') ctv) ⟨[.int n t], []⟩ = pure [(Str.ofString "one", .int n t)] := rfl
  rw [hbind]
  refine wpAny_pure (wpAny_newFunctionEnv (show ∀ x ∈ lamScope.names, x.2 ≠ .cell by decide) (fun x hx => by rw [List.mem_singleton.mp hx]; rfl) (fun h₁ hns hsb => ⟨lim.fresh _ hsb, ?_⟩) rfl)
  have kp : ∀ b o, s.heap.get? b = some o → h₁.get? b = some o := fun b o e => hsb.extBut b o (Nat.ne_of_lt (Heap.lt_size e)) (Heap.get?_push_of_some _ e)
  refine PySem.W.kla_codeExpr ?_
  refine wpAny_Call_Name_kw (Calls.Name_function_global rfl rfl (Calls.loadGlobal_builtin (gns.keeps kp) hm (bns.keeps kp) hb ?_) rfl)
  refine PyProof.Rows.callWith_builtin1 ?_ rfl rfl
  refine Calls.spliced_cons (wpAny_Name (wpAny_loadName_local rfl rfl hns (v := .int n t) rfl ?_) rfl)
  refine Calls.spliced_nil ?_
  exact call_abs_int fun u tk => ⟨h₁, tk, rfl, kp, by constructor⟩
section
variable {X : Cx} {pins : List (Addr × Obj)} {σ : L2.St} {H : Hp} {s : Shared}
/-- the table and what it tells -/
noncomputable def TbOk (H : Hp) (P : Addr) (q : Str) (ps : Array Value) : Prop := H P = some (.tbl ps) ∧ TriplesOk ps.toList ∧ ∀ (pos : Pos) (cv : Value), codeAmong pos ps.toList = some cv → ∃ c, cv = .ref c ∧ H c = some (LamX.CodeO c q)
/-- how the things tracked change when a lambda is made: not at all, or by a new code object that is told in the table -/
inductive LamH (H : Hp) (P : Addr) (q : Str) (ps : Array Value) (c' : Addr) : Hp → Prop
  | same (h : H c' = some (LamX.CodeO c' q)) : LamH H P q ps c' H
  | new (more : Array Value) (h : H c' = none) (t : TriplesOk (ps ++ more).toList) (a : ∀ (pos : Pos) (cv : Value), codeAmong pos (ps ++ more).toList = some cv → codeAmong pos ps.toList = some cv ∨ cv = .ref c') : LamH H P q ps c' (upd (upd H P (.tbl (ps ++ more))) c' (LamX.CodeO c' q))
theorem lam_make3 {c P : Addr} {q : Str} {ps : Array Value} {pa p1 p2 p3 pos : Pos} {E : Value → Shared → Prop} {Q : Value → Shared → Prop} (I : Inv X pins σ H s) (TB : LamX.TabB X.base X.mg c P) (hcode : X.env.code = .ref c) (eq : X.env.qual ++ "<lambda>" = q) (T : TbOk H P q ps)
    (h : ∀ (f c' : Addr) (pm ctv : Value) (H1 : Hp) (s' : Shared), Inv X pins σ H1 s' → LamH H P q ps c' H1 → s'.heap.get? f = some (lamObj q pa p1 p2 p3 pm c' ctv) → H1 c' = some (LamX.CodeO c' q) → Q (.ref f) s') :
    wpAny (model X.prog X.w) X.A (eval (.Lambda (lamArgs pa) (lamBody p1 p2 p3) lamScope pos) X.env) Q E s := by
  subst eq
  obtain ⟨hP, ht, ha⟩ := T
  refine PySem.W.kla_eval rfl ?_
  have bP : s.heap.BuiltinsAt X.mg P := TB.bm.keeps I.bk
  have hP' : s.heap.get? P = some { cls := .none, data := .fields ps } := I.hok P _ hP
  have hfree : ∀ y ∈ lamScope.names, y.2 = .free → ∃ c, X.env.cells.lookup y.1 = some c := fun y hy e => by
    have : ∀ y ∈ lamScope.names, y.2 ≠ .free := by decide
    exact absurd e (this y hy)
  cases hc : codeAmong pos ps.toList with
  | none =>
    refine PySem.W.kla_makeFunction (mg := X.mg) (c := c) (P := P) (ps := ps) (closure_ok hfree) I.ok.glob (I.mod.glob.keeps I.bk) hcode (TB.code.keeps I.bk) hP' ht hc TB.gP bP fun c' ctv h' tk hx hge hlt hrec htb => ?_
    obtain ⟨c2, oc, vs, t, e2, hoc, hd, hv⟩ := hrec
    cases e2
    have hsz : s.heap.objs.size ≤ h'.objs.size := Nat.le_trans hge (Nat.le_of_lt hlt)
    have nC : H c' = none := I.hok.fresh hge
    have I1 := LamX.inv_table (t' := tk) (more := #[rawInt pos.line, rawInt pos.col, .ref c']) (h' := h'.push (lamObj (X.env.qual ++ "<lambda>") pa p1 p2 p3 ((X.mg "__name__").getD .none) c' ctv)) I hP
      (fun b o hb e => Heap.get?_push_of_some _ (hx b o hb e)) (Heap.get?_push_of_some _ htb) hge ⟨oc, vs, t, Heap.get?_push_of_some _ hoc, hd, hv⟩
    have eL : (ps ++ #[rawInt pos.line, rawInt pos.col, .ref c']).toList = ps.toList ++ [rawInt pos.line, rawInt pos.col, .ref c'] := by simp
    refine h h'.objs.size c' ((X.mg "__name__").getD .none) ctv _ _ I1 (.new _ nC (by rw [eL]; exact PySem.TriplesOk_snoc _ _ _ _ ht) fun p' cv hcv => ?_) (Heap.get?_push_size _ rfl) upd_same
    rw [eL] at hcv
    exact LamX.among_app _ ht hcv
  | some cv =>
    obtain ⟨c', e, hco⟩ := ha pos cv hc
    subst e
    refine PySem.W.kla_makeFunctionHit (mg := X.mg) (c := c) (P := P) (ps := ps) (closure_ok hfree) I.ok.glob (I.mod.glob.keeps I.bk) hcode (TB.code.keeps I.bk) hP' ht hc bP fun ctv h' tk hx hsz => ?_
    have I1 : Inv X pins σ H { s with heap := h'.push (lamObj (X.env.qual ++ "<lambda>") pa p1 p2 p3 ((X.mg "__name__").getD .none) c' ctv), toks := tk } := I.kept fun b o e => Heap.get?_push_of_some _ (hx b o e)
    exact h h'.objs.size c' ((X.mg "__name__").getD .none) ctv H _ I1 (.same hco) (Heap.get?_push_size _ rfl) hco
noncomputable def absI (n : Int) : Int := if n < 0 then -n else n
noncomputable def rSortA (K : PySem.W.Frag) (P : Addr) (q : Str) : List V → Hp → VK → Prop := fun vs H Q => ∃ (a : Addr) (ns : List Int) (ps : Array Value), vs = [V.ref a] ∧ SqL K H a (ns.map V.int) ∧ TbOk H P q ps ∧
  ∀ (H1 : Hp) (c' p : Addr), LamH H P q ps c' H1 → H1 p = none → Q (.ref p) (upd H1 p (.lst ((ns.mergeSort fun x y => decide (absI x ≤ absI y)).map V.int)))
theorem le_ab (a b : Int) : PySem.W.dataLe false (fun n : Int => PyData.int (absI n)) a b = decide (absI a ≤ absI b) := by
  show (!PySem.W.dataLt (.int (absI b)) (.int (absI a))) = _
  have e : PySem.W.dataLt (.int (absI b)) (.int (absI a)) = decide (absI b < absI a) := by
    exact PySem.W.dataLt_int _ _
  rw [e]
  by_cases h : absI b < absI a
  · have h' : ¬ absI a ≤ absI b := by omega
    simp [h, h']
  · have h' : absI a ≤ absI b := by omega
    simp [h, h']
theorem LamH.keep {P : Addr} {q : Str} {ps : Array Value} {c' : Addr} {H1 : Hp} (l : LamH H P q ps c' H1) (hP : H P = some (.tbl ps)) {b : Addr} {o : HO} (h : H b = some o) (nt : ∀ ps, o ≠ .tbl ps) : H1 b = some o := by
  cases l with
  | same _ => exact h
  | new more hc _ _ => rw [upd_ne (ne_of_none h hc), upd_ne (fun z => nt ps (by rw [z, hP] at h; exact (Option.some.inj h).symm))]; exact h
theorem each_int : ∀ {ns : List Int} {its : List Value}, Vals (ns.map V.int) its → PySem.W.EachIs (fun v (n : Int) => ∃ t, v = Value.int n t) its ns
  | [], _, h => by cases h; exact .nil
  | _ :: _, _, h => by cases h with | cons a b => exact .cons a (each_int b)
theorem int_each : ∀ {ns : List Int} {out : List Value}, PySem.W.EachIs (fun v (n : Int) => ∃ t, v = Value.int n t) out ns → Vals (ns.map V.int) out
  | _, _, .nil => .nil
  | _, _, .cons a b => .cons a (int_each b)
theorem pe_sortA {c P : Addr} {q : Str} {e : Expr} {te : TE} {p pa p1 p2 p3 pl kp pos : Pos} {k : Nat} (TB : LamX.TabB X.base X.mg c P) (hcode : X.env.code = .ref c) (eq : X.env.qual ++ "<lambda>" = q) (hg : Gl X "sorted") (hm : X.mg "sorted" = none) (hma : X.mg "abs" = none) (hr : Room k X.A) (he : PE X e te)
    (hst : starEach [e] X.env = (false, eval e X.env) :: starEach [] X.env) :
    PE X (.Call (.Name "sorted" p) [e] [⟨some "key", .Lambda (lamArgs pa) (lamBody p1 p2 p3) lamScope pl, kp⟩] pos) (fun σ H Q => te σ H fun x H1 => rSortA X.K P q [x] H1 Q) := by
  refine ⟨fun pins s σ H Q I h => ?_⟩
  have hb : backTo pos (starEach [e] X.env) = (false, eval e X.env) :: backTo pos (starEach [] X.env) := by rw [hst]; rfl
  refine wpAny_Call_Name_kw (ld_blt I hg hm (u := .builtin "sorted") rfl ?_ (by decide) (by decide))
  refine PyProof.Rows.callWith_kw (thn ((pa_cons he pa_nil hst).run pos pins s σ H (fun vs H1 => rSortA X.K P q vs H1 Q) I h) fun us s1 ⟨vs, H1, I1, r1, q1⟩ => ?_) hb (by rw [hb]; rfl) rfl rfl
  show wpAny _ _ (evalAll ((do let v ← eval (.Lambda (lamArgs pa) (lamBody p1 p2 p3) lamScope pl) X.env; standAt pos; pure v) :: [])) _ _ s1
  obtain ⟨a, ns, ps, rfl, hs, hT, q⟩ := q1
  obtain rfl := Vals.ref1 r1
  refine wpAny_evalAll_cons (wpAny_bind (lam_make3 I1 TB hcode eq hT fun f c' pm ctv H2 s2 I2 hL hf hco => ?_))
  refine wpAny_bind (wpAny_standAt (wpAny_pure ?_))
  refine wpAny_evalAll_nil ?_
  show wpAny _ _ (call (.builtin "sorted") [.ref a] [(Str.ofString "key", .ref f)]) _ _ s2
  have hs2 : SqL X.K H2 a (ns.map V.int) := by
    rcases hs with (h | ⟨o, h⟩) | h
    · exact .inl (.inl (hL.keep hT.1 h (fun _ z => nomatch z)))
    · exact .inl (.inr ⟨o, hL.keep hT.1 h (fun _ z => nomatch z)⟩)
    · exact .inr h
  obtain ⟨its, rv, hl, hz⟩ := I2.list hs2
  have hu := hr.un
  have hdp := hr.dp
  rw [List.length_map] at hz
  obtain ⟨mb, b1, b2⟩ := I2.mod.blt
  obtain ⟨⟨oc, cvs, ct, hoc, hdc, hvc⟩, _, _⟩ := I2.hok c' _ hco
  refine PySem.W.sorted_key_data (β := Int) (b := false) (R := fun v (n : Int) => ∃ t, v = Value.int n t) (fun n : Int => PyData.int (absI n)) hl.isList (each_int rv) ?_ ?_ hz (fun x _ => ?_) (ksk_s1 _ _) (fun _ => ksk_l1 _ _) (fun _ => ksk_t1 _ _) (fun v n hv hn h tk kp => ?_) fun out cc h' tk kp hfr hat hlen hev => ?_
  · intro d hd d' hd'
    obtain ⟨x, _, rfl⟩ := List.mem_map.mp hd
    obtain ⟨y, _, rfl⟩ := List.mem_map.mp hd'
    rfl
  · refine .inr fun d hd => ?_
    obtain ⟨x, _, rfl⟩ := List.mem_map.mp hd
    exact ⟨(fun z => nomatch z), (fun _ z => nomatch z)⟩
  · show X.A.units + 2 + (PyData.int (absI x)).depth < cLine
    have : (PyData.int (absI x)).depth = 0 := rfl
    omega
  · obtain ⟨t, rfl⟩ := hv
    refine lam_turn (mg := X.mg) (mb := mb) (by show X.A.depth < recursionLimit; omega) (kp _ _ hf) ⟨c', oc, cvs, ct, rfl, kp _ _ hoc, hdc, hvc⟩ (I2.nolimit.keeps kp) ((I2.mod.glob.keeps I2.bk).keeps kp) hma ((b1.keeps I2.bk).keeps kp) ((b2 _ (by decide)).trans rfl)
  · have el : (ns.mergeSort (PySem.W.dataLe false fun n : Int => PyData.int (absI n))) = ns.mergeSort fun x y => decide (absI x ≤ absI y) := by
      congr 1
      funext x y
      exact le_ab x y
    rw [el] at hev
    have hlen2 : ((ns.mergeSort fun x y => decide (absI x ≤ absI y)).map V.int).length ≤ sizeLine := by
      rw [List.length_map, (List.mergeSort_perm _ _).length_eq]; exact hz
    exact ⟨.ref _, upd H2 (s2.heap.objs.size + 1) (.lst ((ns.mergeSort fun x y => decide (absI x ≤ absI y)).map V.int)), I2.laid (t' := tk) kp (Nat.le_succ _) ⟨hlen2, out, cc, int_each hev, hat⟩, rfl, q _ _ _ hL (I2.hok.fresh (Nat.le_succ _))⟩
end
end DL
namespace DL
open PySem PySem.Spec PyProof.Rows L2
end DL
set_option maxHeartbeats 4000000
namespace DL
open PySem PySem.Spec PyProof.Rows L2
section
variable {X : Cx}
noncomputable def sndP (b : V × PyData) : PyData := b.2
noncomputable def rSortAD (K : PySem.W.Frag) : List V → Hp → VK → Prop := fun vs H Q => ∃ (a : Addr) (bs : List (V × PyData)), vs = [V.ref a] ∧ SqL K H a (bs.map (·.1)) ∧ (∀ b ∈ bs, b.2.depth ≤ 20 ∧ Dp K H b.1 b.2) ∧ PySem.W.AllAlike (bs.map sndP) ∧ PySem.W.Sortable (bs.map sndP) ∧
  ∀ (bs' : List (V × PyData)) (p : Addr), bs'.Perm bs → bs'.Pairwise (fun x y => PySem.W.dataLt y.2 x.2 = false) → H p = none → Q (.ref p) (upd H p (.lst (bs'.map (·.1))))
theorem eachAD : ∀ {bs : List (V × PyData)} {its : List Value}, Vals (bs.map (·.1)) its → PySem.W.EachIs (fun v (b : V × PyData) => RelV b.1 v) its bs
  | [], _, h => by cases h; exact .nil
  | _ :: _, _, h => by cases h with | cons a b => exact .cons a (eachAD b)
theorem valsAD : ∀ {bs : List (V × PyData)} {out : List Value}, PySem.W.EachIs (fun v (b : V × PyData) => RelV b.1 v) out bs → Vals (bs.map (·.1)) out
  | _, _, .nil => .nil
  | _, _, .cons a b => .cons a (valsAD b)
theorem readsAD {pins : List (Addr × Obj)} {σ : L2.St} {H : Hp} {s : Shared} (I : L2.Inv X pins σ H s) : ∀ {bs : List (V × PyData)} {its : List Value}, Vals (bs.map (·.1)) its → (∀ b ∈ bs, Dp X.K H b.1 b.2) → PySem.W.EachIs (fun v b => ∃ as, Reads s.heap v (sndP b) as) its bs
  | [], _, h, _ => by cases h; exact .nil
  | b :: bs, _, h, hd => by
    cases h with
    | cons h1 h2 => exact .cons (Dp.reads I _ _ _ (hd b (List.mem_cons_self ..)) h1) (readsAD I h2 fun c hc => hd c (List.mem_cons_of_mem _ hc))
theorem cr_sortedAD (hu : X.A.units + 64 < cLine) : CallR X (.builtin "sorted") (rSortAD X.K) := by
  intro pins s σ H xs us Q I r h
  obtain ⟨a, bs, rfl, hs, hb, hal, hk, q⟩ := h
  obtain ⟨its, rv, hl, hz⟩ := I.list hs
  rw [Vals.ref1 r]
  rw [List.length_map] at hz
  refine PySem.W.sorted_data (enc := sndP) hl.isList (eachAD rv) (readsAD I rv fun b h => (hb b h).2) hal hk hz (fun b h => ?_) fun out hlo he => ?_
  · have := (hb b h).1
    show _ + (b.2).depth < _
    omega
  · obtain ⟨ep, he'⟩ := PyProof.Rows.sortedAll_at s.heap its out.toArray
    have hp : (bs.mergeSort (PySem.W.dataLe false sndP)).Perm bs := List.mergeSort_perm _ _
    have hpw : (bs.mergeSort (PySem.W.dataLe false sndP)).Pairwise fun x y => PySem.W.dataLt y.2 x.2 = false :=
      (PySem.W.sort_pairwise (le := PySem.W.dataLe false sndP) (PySem.W.sortLe_total (PyProof.Rows.listOrd PyProof.Rows.itemOrd) false fun b => PySem.W.keyToks (sndP b)) bs).imp fun {x y} h => by
        have h2 : (!PySem.W.dataLt y.2 x.2) = true := h
        simpa using h2
    have hlen : ((bs.mergeSort (PySem.W.dataLe false sndP)).map (·.1)).length ≤ sizeLine := by
      rw [List.length_map, hp.length_eq]; exact hz
    exact ⟨.ref _, upd H (s.heap.objs.size + 1) (.lst ((bs.mergeSort (PySem.W.dataLe false sndP)).map (·.1))), I.laid (t' := s.toks) (fun _ _ => PyProof.Rows.sortedAll_old) (Nat.le_succ _) ⟨hlen, out, ep, valsAD he, he'⟩, rfl, q _ _ hp hpw (I.hok.fresh (Nat.le_succ _))⟩
theorem le_tot : PySem.W.TotalLe (PySem.W.dataLe false fun b : PyData => b) := PySem.W.sortLe_total (PyProof.Rows.listOrd PyProof.Rows.itemOrd) false fun b => PySem.W.keyToks b
theorem le_iff {p q : PyData} : PySem.W.dataLe false (fun b : PyData => b) p q = true ↔ PySem.W.dataLt q p = false := by
  show (!PySem.W.dataLt q p) = true ↔ _
  simp
theorem minD_le : ∀ (xs : List PyData) (x : PyData), PySem.W.dataLt x (PySem.W.minD x xs) = false ∧ ∀ y ∈ xs, PySem.W.dataLt y (PySem.W.minD x xs) = false
  | [], x => by
    have h := le_tot.total x x
    exact ⟨le_iff.mp (by rcases h with h | h <;> exact h), fun y hy => absurd hy (by simp)⟩
  | y :: ys, x => by
    have e : PySem.W.minD x (y :: ys) = PySem.W.minD (if PySem.W.dataLt y x = true then y else x) ys := rfl
    rw [e]
    by_cases h : PySem.W.dataLt y x = true
    · rw [if_pos h]
      obtain ⟨h1, h2⟩ := minD_le ys y
      have hxy : PySem.W.dataLe false (fun b : PyData => b) y x = true := by
        rcases le_tot.total y x with z | z
        · exact z
        · rw [le_iff, h] at z; cases z
      refine ⟨le_iff.mp (le_tot.trans _ _ _ (le_iff.mpr h1) hxy), fun z hz => ?_⟩
      rcases List.mem_cons.mp hz with rfl | hz
      · exact h1
      · exact h2 z hz
    · rw [if_neg h]
      obtain ⟨h1, h2⟩ := minD_le ys x
      refine ⟨h1, fun z hz => ?_⟩
      rcases List.mem_cons.mp hz with rfl | hz
      · exact le_iff.mp (le_tot.trans _ _ _ (le_iff.mpr h1) (le_iff.mpr (by simpa using h)))
      · exact h2 z hz
noncomputable def rMinAD (K : PySem.W.Frag) : List V → Hp → VK → Prop := fun vs H Q => ∃ (a : Addr) (bs : List (V × PyData)), vs = [V.ref a] ∧ SqL K H a (bs.map (·.1)) ∧ bs ≠ [] ∧ (∀ b ∈ bs, b.2.depth ≤ 20 ∧ Dp K H b.1 b.2) ∧ PySem.W.AlikeAll (bs.map sndP) ∧
  ∀ b ∈ bs, (∀ c ∈ bs, PySem.W.dataLt c.2 b.2 = false) → Q b.1 H
theorem cr_minAD (hc : X.calm = true) (hu : X.A.units + 64 < cLine) : CallR X (.builtin "min") (rMinAD X.K) := by
  intro pins s σ H xs us Q I r h
  obtain ⟨a, bs, rfl, hs, hne, hb, hal, q⟩ := h
  obtain ⟨its, rv, hl, hz⟩ := I.list hs
  rw [Vals.ref1 r]
  obtain ⟨as, hr⟩ := PySem.W.each_readsAll sndP (readsAD I rv fun b h => (hb b h).2)
  cases bs with
  | nil => exact absurd rfl hne
  | cons b0 bs =>
    have hd : PyData.depthAll ((b0 :: bs).map sndP) ≤ 20 := by
      have : ∀ l : List (V × PyData), (∀ b ∈ l, b.2.depth ≤ 20) → PyData.depthAll (l.map sndP) ≤ 20 := by
        intro l
        induction l with
        | nil => intro _; exact Nat.zero_le _
        | cons c l ih =>
          intro h
          have h1 := h c (by simp)
          have h2 := ih fun d hd => h d (by simp [hd])
          simp only [List.map_cons, PyData.depthAll]
          show max (c.2).depth _ ≤ 20
          omega
      exact this _ fun b h => (hb b h).1
    refine PySem.W.min_list_data (I.ok.hd hc) hl.isList (by simpa using hr) hal (by simp only [List.map_cons] at hd; omega) fun i v h' tk as' hi rd hk => ?_
    have hi' : its[i]? = some v := by simpa using hi
    obtain ⟨b, hbi, rb⟩ : ∃ b, (b0 :: bs)[i]? = some b ∧ RelV b.1 v := by
      have hlen := rv.length
      have hlt := (List.getElem?_eq_some_iff.mp hi').1
      rw [List.length_map] at hlen
      have e : (b0 :: bs)[i]? = some ((b0 :: bs)[i]'(by omega)) := List.getElem?_eq_getElem _
      obtain ⟨u, hu1, hu2⟩ := rv.get (show ((b0 :: bs).map (·.1))[i]? = some ((b0 :: bs)[i]'(by omega)).1 by rw [List.getElem?_map, e]; rfl)
      rw [hi'] at hu1
      cases hu1
      exact ⟨_, e, hu2⟩
    have hm := List.mem_of_getElem? hbi
    obtain ⟨as2, r2⟩ := Dp.reads I _ _ _ (hb b hm).2 rb
    have eq : b.2 = PySem.W.minD (sndP b0) (bs.map sndP) := by
      have r3 := PyProof.Rows.Reads.keeps hk r2
      exact (r3.unique _ _ rd).1
    refine ⟨b.1, H, I.kept (t' := tk) hk, rb, q b hm fun c hc => ?_⟩
    rw [eq]
    rcases List.mem_cons.mp hc with rfl | hc
    · exact (minD_le _ _).1
    · exact (minD_le _ _).2 _ (List.mem_map.mpr ⟨c, hc, rfl⟩)
end
end DL
set_option maxHeartbeats 4000000
namespace DL
open PySem PySem.Spec PyProof.Rows L2
section
variable {X : Cx}
theorem call_ptup : CallR X (.type "tuple") (fun xs H Q => ∃ p ys, xs = [.ref p] ∧ SqL X.K H p ys ∧ ∀ (l : Addr) (o : Obj), o.dict = none → H l = none → Q (.ref l) (upd H l (.frz o (.tup ys)))) := by
  intro pins s σ H xs us Q I r h
  obtain ⟨p, ys, rfl, hq, q⟩ := h
  obtain ⟨u, rfl, rx⟩ := vals1 r
  cases rx
  obtain ⟨its, r', pl, hz⟩ := I.list hq
  have hlen := r'.length
  refine call_tuple_list pl.isList (fun h' kp => ?_) (by simp only [List.size_toArray] <;> omega)
  have I1 : Inv X pins σ H { s with heap := h' } := I.kept (t' := s.toks) kp
  have I2 : Inv X pins σ (upd H h'.objs.size (.frz { cls := .type "tuple", data := .seq its.toArray } (.tup ys))) { s with heap := h'.push { cls := .type "tuple", data := .seq its.toArray } } :=
    I1.laid (t' := s.toks) (fun b o e => Heap.get?_push_of_some _ e) (Nat.le_refl _) (show ObjOk X.prog X.w _ _ _ (.frz _ (.tup ys)) from ⟨Heap.get?_push_size _ rfl, hz, its, r', IsTup.new _ _⟩)
  exact ⟨.ref h'.objs.size, _, I2, rfl, q _ _ rfl (I1.hok.fresh (Nat.le_refl _))⟩
end
end DL
namespace DL
open PySem PySem.Spec PyProof.Rows L2
/-- constants -/
inductive CC where | non | bl (b : Bool) | int (i : Int) | str (x : Str)
noncomputable def CC.d : CC → D | .non => .non | .bl b => .bl b | .int i => .int i | .str x => .str x
/-- built-in functions -/
inductive BI where
  | len | abs | min2 | max2 | int1 | tuple1 | list1 | all1 | any1 | repr1 | sum1 | min1 | max1 | sorted1 | min3 | max3 | reprE | str1 | listD | intS | sortT | sortL | sortD | minD | sortP
  deriving DecidableEq
/-- types that isinstance asks about -/
inductive TyB where | int | bool | str | tuple | list
  deriving DecidableEq
mutual
inductive CE where
  | var (i : Nat)
  | con (c : CC)
  | bin (op : Operator) (m : Bool) (a b : CE)
  | neg (a : CE)
  | cmp (op : CmpOp) (a b : CE)
  | ite (t : CB) (a b : CE)
  | tup (es : List CE)
  | lst (m : Bool) (es : List CE)
  | ix (a i : CE)
  | call (j : Nat) (es : List CE)
  | callK (j : Nat) (es : List CE) (kes : List CE) (perm : List Nat)
  | bi (b : BI) (m : Bool) (es : List CE)
  | sortA (m : Bool) (a : CE)
  | dnew
  | dnew1 (es : List CE) (v : CE)
  | ktup (es : List CE)
  | lrg (m : Bool) (a b : CE)
  | dcomp (key val : CE) (tg : CT) (it : CI) (own : List Nat)
  | ptup (a : CE)
  | lz (m : Bool) (a b : CE)
  | dget2 (a : CE) (es : List CE) (x : CE)
  | lc (m : Bool) (elt : CE) (tg : CT) (it : CI) (ifs : List CB) (own : List Nat)
  | dcS (key val : CE) (tg : CT) (it : CI) (ifs : List CB) (own : List Nat)
  | mk (cn : Str) (j : Nat) (es : List CE)
  | isiX (tp : Bool) (cns : List Str) (a : CE)
inductive CB where
  | cand (a b : CB)
  | cor (a b : CB)
  | cnot (a : CB)
  | ccmp (op : CmpOp) (a b : CE)
  | cval (e : CE)
inductive CT where
  | name (i : Nat)
  | tup (ts : List CT)
  | sub (a i : CE)
  | dsub (a : CE) (es : List CE)
  | ksub (a i : CE)
  | kput (a i : CE)
  | sput (a i : CE)
inductive CI where
  | seq (e : CE)
  | range1 (a : CE)
  | range2 (a b : CE)
  | range3 (a b c : CE)
  | enum (a : CE)
  | keys (e : CE)
  | items (e : CE)
inductive CO where
  | no
  | yes (e : CE)
end
/-- a call that may raise: of a def, of a class, of a method (defs by their places in the table of those that may raise) -/
inductive XR where
  | fn (j : Nat) (es : List CE)
  | mk (cn : Str) (j : Nat) (es : List CE)
mutual
inductive CS where
  | ret (e : CE)
  | brk
  | never
  | asg (t : CT) (e : CE)
  | par2 (i j : Nat) (a b : CE)
  | aug (i : Nat) (op : Operator) (e : CE)
  | append (a e : CE)
  | extend (a e : CE)
  | if_ (c : CB) (a b : List CS)
  | for_ (t : CT) (it : CI) (b : List CS)
  | lock (s : CS)
  | raise0 (c : Str)
  | tryC (j : Option Nat) (r : XR) (k i : Nat)
end
noncomputable def lstOf (S : DStore) : D → Option (List D)
  | .lst xs => some xs
  | .ref n => match S[n]? with
    | some (.lst xs) => some xs
    | _ => none
  | _ => none
/-- a list lies there -/
noncomputable def LAt (S : DStore) (n : Nat) : Prop := ∃ xs, S[n]? = some (.lst xs)
theorem lat {S : DStore} {n : Nat} {xs : List D} (h : S[n]? = some (.lst xs)) : LAt S n := ⟨xs, h⟩
noncomputable def dctOf (S : DStore) (n : Nat) : Option (List (List L2.Key × D)) := match S[n]? with
  | some (.dct kvs) => some kvs
  | some (.dlk kvs) => some kvs
  | _ => none
noncomputable def DAt (S : DStore) (n : Nat) : Prop := ∃ kvs, dctOf S n = some kvs
noncomputable def k3D (k : K3) : D := .tup [.int k.1, .bl k.2.1, .int k.2.2]
noncomputable def pD (p : Int × Int) : D := .tup [.int p.1, .int p.2]
noncomputable def put3D (ks : List K3) (k : K3) : List K3 := if k ∈ ks then ks else ks ++ [k]
noncomputable def seqOf (S : DStore) : D → Option (List D)
  | .tup xs => some xs
  | .scr xs => some xs
  | d => lstOf S d
/-- a tuple or a list -/
noncomputable def tlOf (S : DStore) : D → Option (List D)
  | .tup xs => some xs
  | .ptup xs => some xs
  | d => lstOf S d
noncomputable def newL (m : Bool) (ds : List D) (S : DStore) (Q : QE) : Prop :=
  match m with
  | true => Q (.ref S.length) (S ++ [.lst ds])
  | false => Q (.lst ds) S
noncomputable def i2 (x y : D) (k : Int → Int → Prop) : Prop := match x, y with
  | .int i, .int j => k i j
  | _, _ => False
noncomputable def MulOk (i j : Int) : Prop := CMul i j ∨ CMulW i j
noncomputable def PowOk (i j : Int) : Prop := 0 ≤ j ∧ (PySem.Builtin.Int.intBits i : Int) * j ≤ 2 ^ 27
noncomputable def DivOk (j : Int) : Prop := j ≠ 0 ∧ j.natAbs.log2 < 9000
noncomputable def addD (m : Bool) (x y : D) (S : DStore) (Q : QE) : Prop := match x, y with
  | .int i, .int j => Q (.int (i + j)) S
  | .str a, .str b => a.length + b.length ≤ sizeLine ∧ Q (.str (a ++ b)) S
  | .tup a, .tup b => a.length + b.length ≤ sizeLine ∧ Q (.tup (a ++ b)) S
  | x, y => ∃ a b, lstOf S x = some a ∧ lstOf S y = some b ∧ a.length + b.length ≤ sizeLine ∧ newL m (a ++ b) S Q
noncomputable def mulD (m : Bool) (x y : D) (S : DStore) (Q : QE) : Prop := match x, y with
  | .int i, .int j => MulOk i j ∧ Q (.int (i * j)) S
  | .tup a, .int k => a ≠ [] ∧ 0 ≤ k ∧ k ≤ 1000 ∧ a.length ≤ 1000 ∧ Q (.tup (List.replicate k.toNat a).flatten) S
  | x, .int k => ∃ a, lstOf S x = some a ∧ -(2 ^ 63) ≤ k ∧ k < 2 ^ 63 ∧ a.length * k.toNat ≤ sizeLine ∧ newL m (List.replicate k.toNat a).flatten S Q
  | _, _ => False
noncomputable def binD (op : Operator) (m : Bool) (x y : D) (S : DStore) (Q : QE) : Prop := match op with
  | .Add => addD m x y S Q
  | .Sub => i2 x y fun i j => Q (.int (i - j)) S
  | .Mult => mulD m x y S Q
  | .FloorDiv => i2 x y fun i j => DivOk j ∧ Q (.int (i.fdiv j)) S
  | .Mod => i2 x y fun i j => j ≠ 0 ∧ Q (.int (i.fmod j)) S
  | .Pow => i2 x y fun i j => PowOk i j ∧ Q (.int (i ^ j.toNat)) S
  | .LShift => i2 x y fun i j => CShl i j ∧ Q (.int (i * 2 ^ j.toNat)) S
  | .RShift => i2 x y fun i j => 0 ≤ j ∧ Q (.int (i / 2 ^ j.toNat)) S
  | _ => False
mutual
noncomputable def pur : D → Option PyData
  | .non => some .none
  | .bl b => some (.bool b)
  | .int i => some (.int i)
  | .str x => some (.str x)
  | .tup xs => (purs xs).map .tuple
  | .lst xs => (purs xs).map .list
  | .ref _ => none
  | .scr _ => none
  | .key _ => none
  | .ptup _ => none
noncomputable def purs : List D → Option (List PyData)
  | [] => some []
  | x :: xs => (pur x).bind fun p => (purs xs).map (p :: ·)
end
noncomputable def purS (S : DStore) : D → Option PyData
  | .ref n => ((lstOf S (.ref n)).bind purs).map .list
  | d => pur d
mutual
/-- data, empty dicts among them -/
noncomputable def purE (S : DStore) : D → Option PyData
  | .non => some .none
  | .bl b => some (.bool b)
  | .int i => some (.int i)
  | .str x => some (.str x)
  | .tup xs => (pursE S xs).map .tuple
  | .lst xs => (pursE S xs).map .list
  | .ref n => match S[n]? with
    | some (.dct []) => some (.dict [])
    | some (.lst xs) => (purs xs).map .list
    | _ => none
  | .scr _ => none
  | .key _ => none
  | .ptup _ => none
noncomputable def pursE (S : DStore) : List D → Option (List PyData)
  | [] => some []
  | x :: xs => (purE S x).bind fun p => (pursE S xs).map (p :: ·)
end
noncomputable def eqD (S : DStore) (x y : D) (Q : Bool → Prop) : Prop := match x, y with
  | .int i, .int j => Q (decide (i = j))
  | .bl i, .bl j => Q (decide (i = j))
  | .str i, .str j => Q (decide (i = j))
  | x, y => ∃ p q, purS S x = some p ∧ purS S y = some q ∧ SeqAt.shaped p = true ∧ SeqAt.shaped q = true ∧ Q (PyData.eqv p q)
/-- flat things: what `in` may compare -/
noncomputable def flatD : D → Bool
  | .non | .bl _ | .int _ | .str _ => true
  | _ => false
noncomputable def toV : D → V
  | .non => .non | .bl b => .bl b | .int i => .int i | .str x => .str x | _ => .non
noncomputable def inD (S : DStore) (x y : D) (Q : Bool → Prop) : Prop := match x with
  | .key ks => ∃ n kvs, y = .ref n ∧ dctOf S n = some kvs ∧ Q (valD kvs ks).isSome
  | .tup us => (∃ n kvs ks, y = .ref n ∧ dctOf S n = some kvs ∧ keysOf us = some ks ∧ Q (valD kvs ks).isSome) ∨ (∃ p ys ps, pur (.tup us) = some p ∧ y = .tup ys ∧ purs ys = some ps ∧ SeqAt.shaped p = true ∧ SeqAt.shaped (.tuple ps) = true ∧ p.depth ≤ 10 ∧ Q (ps.any fun z => PyData.eqv z p)) ∨
      ∃ p ps, pur (.tup us) = some p ∧ purS S y = some (.list ps) ∧ SeqAt.shaped p = true ∧ SeqAt.shaped (.list ps) = true ∧ p.depth ≤ 10 ∧ Q (ps.any fun z => PyData.eqv z p)
  | x => ∃ xs, seqOf S y = some xs ∧ flatD x = true ∧ xs.all flatD = true ∧ Q (inV (toV x) (xs.map toV))
noncomputable def isNon : D → Bool
  | .non => true
  | _ => false
noncomputable def isD (x y : D) (Q : Bool → Prop) : Prop := match y with
  | .non => Q (isNon x)
  | .bl b => ∃ c, x = .bl c ∧ Q (decide (c = b))
  | _ => False
/-- order: of whole numbers, and of tuples and lists that are alike -/
noncomputable def ordD (g : Int → Int → Bool) (f : PyData → PyData → Bool) (S : DStore) (x y : D) (Q : Bool → Prop) : Prop := match x, y with
  | .int i, .int j => Q (g i j)
  | x, y => ∃ p q, purS S x = some p ∧ purS S y = some q ∧ PySem.W.alike p q = true ∧ p ≠ .none ∧ p.depth ≤ 10 ∧ Q (f p q)
noncomputable def cmpD (op : CmpOp) (S : DStore) (x y : D) (Q : Bool → Prop) : Prop := match op with
  | .Lt => ordD (fun i j => decide (i < j)) (fun p q => PySem.W.dataLt p q) S x y Q
  | .LtE => ordD (fun i j => decide (i ≤ j)) (fun p q => !PySem.W.dataLt q p) S x y Q
  | .Gt => ordD (fun i j => decide (j < i)) (fun p q => PySem.W.dataLt q p) S x y Q
  | .GtE => ordD (fun i j => decide (j ≤ i)) (fun p q => !PySem.W.dataLt p q) S x y Q
  | .Eq => eqD S x y Q
  | .NotEq => eqD S x y fun b => Q (!b)
  | .In => inD S x y Q
  | .NotIn => inD S x y fun b => Q (!b)
  | .Is => isD x y Q
  | .IsNot => isD x y fun b => Q (!b)
noncomputable def truD (S : DStore) (x : D) (Q : Bool → Prop) : Prop := match x with
  | .non => Q false
  | .bl b => Q b
  | .int i => Q (i != 0)
  | .str y => y.length ≤ sizeLine ∧ Q ((y.length : Int) != 0)
  | d => ∃ xs, seqOf S d = some xs ∧ Q (!xs.isEmpty)
noncomputable def ixD (S : DStore) (x y : D) (Q : D → Prop) : Prop := match y with
  | .int i => match x with
    | .str z => ∃ c, z.length ≤ sizeLine ∧ atI z.cps.toList i = some c ∧ Q (.str ⟨#[c]⟩)
    | d => ∃ xs v, seqOf S d = some xs ∧ atI xs i = some v ∧ Q v
  | .tup ys => ∃ n kvs ks v, x = .ref n ∧ dctOf S n = some kvs ∧ keysOf ys = some ks ∧ valD kvs ks = some v ∧ Q v
  | .key ks => ∃ n kvs v, x = .ref n ∧ dctOf S n = some kvs ∧ valD kvs ks = some v ∧ Q v
  | _ => False
structure RepOk (p : PyData) : Prop where
  sh : p.showable = true
  dp : p.depth ≤ 50
  nd : p.hasDict = false
  sz : p.shown.length ≤ sizeLine
noncomputable def blOf : D → Option Bool
  | .bl b => some b
  | _ => none
noncomputable def inOf : D → Option Int
  | .int b => some b
  | _ => none
/-- sorted: ints, or the keys of a dict of pairs of ints -/
noncomputable def srtD (m : Bool) (d : D) (S : DStore) (Q : QE) : Prop :=
  (∃ xs ns, lstOf S d = some xs ∧ xs.mapM inOf = some ns ∧ ∀ ns' : List Int, ns'.Perm ns → ns'.Pairwise (· ≤ ·) → newL m (ns'.map D.int) S Q) ∨
  (∃ n kvs, d = .ref n ∧ dctOf S n = some kvs ∧ (∀ p ∈ kvs, ∃ i j : Int, p.1 = [Sum.inl i, Sum.inl j]) ∧ ∀ ds' : List D, ds'.Perm (kvs.map fun p => D.tup (p.1.map keyD)) → newL m ds' S Q) ∨
  (∃ n kvs, d = .ref n ∧ dctOf S n = some kvs ∧ (∀ p ∈ kvs, SI p.1) ∧ ∀ ds' : List D, ds'.Perm (kvs.map fun p => D.tup (p.1.map keyD)) → newL m ds' S Q)
noncomputable def tI (r : List Int) : D := .tup (r.map D.int)
noncomputable def kPr : List L2.Key → Int × Int
  | [.inl i, .inl j] => (i, j)
  | _ => (0, 0)
noncomputable def biD (b : BI) (m : Bool) (xs : List D) (S : DStore) (Q : QE) : Prop := match b, xs with
  | .len, [.str y] => y.length ≤ sizeLine ∧ Q (.int y.length) S
  | .len, [d] => ∃ xs, seqOf S d = some xs ∧ Q (.int xs.length) S
  | .abs, [.int i] => Q (.int (if i < 0 then -i else i)) S
  | .min2, [.int i, .int j] => Q (.int (if j < i then j else i)) S
  | .max2, [.int i, .int j] => Q (.int (if j > i then j else i)) S
  | .int1, [.int i] => Q (.int i) S
  | .int1, [.bl k] => Q (.int (if k then 1 else 0)) S
  | .tuple1, [.tup xs] => Q (.tup xs) S
  | .tuple1, [d] => ∃ xs, lstOf S d = some xs ∧ Q (.tup xs) S
  | .list1, [d] => ∃ xs, seqOf S d = some xs ∧ newL m xs S Q
  | .listD, [d] => ∃ n kvs, d = .ref n ∧ dctOf S n = some kvs ∧ newL m (kvs.map fun p => D.tup (p.1.map keyD)) S Q
  | .all1, [d] => ∃ xs bs, lstOf S d = some xs ∧ xs.mapM blOf = some bs ∧ Q (.bl (bs.all id)) S
  | .any1, [d] => ∃ xs bs, lstOf S d = some xs ∧ xs.mapM blOf = some bs ∧ Q (.bl (bs.any id)) S
  | .sum1, [d] => ∃ xs bs, tlOf S d = some xs ∧ xs.mapM inOf = some bs ∧ Q (.int bs.sum) S
  | .min1, [d] => ∃ xs bs m, tlOf S d = some xs ∧ xs.mapM inOf = some bs ∧ m ∈ bs ∧ (∀ y ∈ bs, m ≤ y) ∧ Q (.int m) S
  | .max1, [d] => ∃ xs bs m, tlOf S d = some xs ∧ xs.mapM inOf = some bs ∧ m ∈ bs ∧ (∀ y ∈ bs, y ≤ m) ∧ Q (.int m) S
  | .min3, [.int i, .int j, .int k] => Q (.int (if k < (if j < i then j else i) then k else if j < i then j else i)) S
  | .max3, [.int i, .int j, .int k] => Q (.int (if k > (if j > i then j else i) then k else if j > i then j else i)) S
  | .repr1, [d] => ∃ p, purS S d = some p ∧ RepOk p ∧ Q (.str p.shown) S
  | .sorted1, [d] => srtD m d S Q
  | .sortT, [.tup xs] => ∃ ns, xs.mapM inOf = some ns ∧ ∀ ns' : List Int, ns'.Perm ns → ns'.Pairwise (· ≤ ·) → newL m (ns'.map D.int) S Q
  | .sortL, [d] => ∃ rows : List (List Int), lstOf S d = some (rows.map tI) ∧ (∀ r ∈ rows, r ≠ []) ∧ ∀ rows' : List (List Int), rows'.Perm rows → rows'.Pairwise (· ≤ ·) → newL m (rows'.map tI) S Q
  | .sortP, [d] => ∃ n kvs, d = .ref n ∧ dctOf S n = some kvs ∧ (∀ p ∈ kvs, ∃ i j : Int, p.1 = [Sum.inl i, Sum.inl j]) ∧ ∀ rs : List (Int × Int), rs.Perm (kvs.map fun p => kPr p.1) → rs.Pairwise (fun a b => a.1 < b.1 ∨ a.1 = b.1 ∧ a.2 ≤ b.2) → newL m (rs.map pD) S Q
  | .sortD, [d] => ∃ bs : List (D × PyData), lstOf S d = some (bs.map (·.1)) ∧ (∀ b ∈ bs, pur b.1 = some b.2 ∧ b.2.depth ≤ 20) ∧ PySem.W.AllAlike (bs.map (·.2)) ∧ PySem.W.Sortable (bs.map (·.2)) ∧ ∀ bs' : List (D × PyData), bs'.Perm bs → bs'.Pairwise (fun x y => PySem.W.dataLt y.2 x.2 = false) → newL m (bs'.map (·.1)) S Q
  | .minD, [d] => ∃ bs : List (D × PyData), lstOf S d = some (bs.map (·.1)) ∧ bs ≠ [] ∧ (∀ b ∈ bs, pur b.1 = some b.2 ∧ b.2.depth ≤ 20) ∧ PySem.W.AlikeAll (bs.map (·.2)) ∧ ∀ b ∈ bs, (∀ c ∈ bs, PySem.W.dataLt c.2 b.2 = false) → Q b.1 S
  | .intS, [.str z] => ∃ n, PySem.intText? z = some n ∧ z.length ≤ 640 ∧ Q (.int n) S
  | .str1, [d] => ∃ i, d = .int i ∧ i.natAbs.log2 < 1920 ∧ Q (.str (toString i)) S
  | .reprE, [d] => ∃ p, purE S d = some p ∧ RepOkE p ∧ Q (.str p.shown) S
  | _, _ => False
noncomputable def isiD : TyB → D → Bool
  | .int, .int _ => true
  | .int, .bl _ => true
  | .bool, .bl _ => true
  | .str, .str _ => true
  | .tuple, .tup _ => true
  | .tuple, .key _ => true
  | .list, .lst _ => true
  | .list, .ref _ => true
  | _, _ => false
noncomputable def isiC : TyB → Cell → Bool
  | .list, .lst _ => true
  | _, _ => false
noncomputable def isiNP (ts : List TyB) (x : D) (S : DStore) (Q : QE) : Prop := match x with
  | .scr _ => False
  | .ptup _ => False
  | .ref n => ∃ c, S[n]? = some c ∧ match c with
    | .dlk _ => False
    | .dkl _ => False
    | .sts _ => False
    | .stl _ => False
    | .tks _ => False
    | .ins _ _ => False
    | .exn _ _ => False
    | c => Q (.bl (ts.any fun t => isiC t c)) S
  | x => Q (.bl (ts.any fun t => isiD t x)) S
noncomputable def isiP (t : TyB) (x : D) (S : DStore) (Q : QE) : Prop := match x with
  | .scr _ => False
  | .ptup _ => False
  | .ref n => ∃ c, S[n]? = some c ∧ match c with
    | .dlk _ => False
    | .dkl _ => False
    | .sts _ => False
    | .stl _ => False
    | .tks _ => False
    | .ins _ _ => False
    | .exn _ _ => False
    | c => Q (.bl (isiC t c)) S
  | x => Q (.bl (isiD t x)) S
/-- what is taken apart -/
noncomputable def unpD (S : DStore) (d : D) (k : List D → Prop) : Prop := match d with
  | .tup xs => k xs
  | d => ∃ xs, lstOf S d = some xs ∧ k xs
/-- what is wished of an exception: its class, its fields -/
noncomputable abbrev QX := Str → List D → DStore → Prop
structure Fns where
  fn : Nat → List D → DStore → QE → Prop
  gl : Nat → D
  /-- the defs that may raise -/
  fx : Nat → List D → DStore → QE → QX → Prop := fun _ _ _ _ _ => False
  /-- what is wished of an exception that leaves the def -/
  xc : QX := fun _ _ _ => False
structure DEnds where
  nx : DEnv → DStore → Prop
  rt : QE
  bk : DEnv → DStore → Prop := fun _ _ => False
  ct : DEnv → DStore → Prop := fun _ _ => False
/-- what is walked: its items, and what must stay -/
noncomputable abbrev RI := List D → (DStore → Prop) → DStore → Prop
noncomputable def itD (S : DStore) (x : D) (R : RI) : Prop := match x with
  | .tup xs => R xs (fun _ => True) S
  | .ptup xs => R xs (fun _ => True) S
  | .lst xs => R xs (fun _ => True) S
  | .scr xs => R xs (fun _ => True) S
  | .ref n => ∃ xs, S[n]? = some (.lst xs) ∧ R xs (fun S' => S'[n]? = some (.lst xs)) S
  | _ => False
noncomputable def zipD (xs ys : List D) : List D := (xs.zip ys).map fun p => .tup [p.1, p.2]
noncomputable def zipP (S : DStore) (x y : D) (R : RI) : Prop := match x, y with
  | .tup xs, .tup ys => R (zipD xs ys) (fun _ => True) S
  | x, y => ∃ xs ys, tlOf S x = some xs ∧ tlOf S y = some ys ∧ R (zipD xs ys) (fun S' => tlOf S' x = some xs ∧ tlOf S' y = some ys) S
noncomputable def enumD (xs : List D) : List D := xs.zipIdx.map fun p => .tup [.int p.2, p.1]
noncomputable def enumP (S : DStore) (x : D) (R : RI) : Prop := match x with
  | .tup xs => R (enumD xs) (fun _ => True) S
  | x => ∃ xs, lstOf S x = some xs ∧ R (enumD xs) (fun S' => lstOf S' x = some xs) S
noncomputable def range3D (lo c : Int) (n : Nat) : List D := (List.range n).map fun (k : Nat) => .int (lo + (k : Int) * c)
noncomputable def rangeD (lo hi : Int) : List D := (List.range (hi - lo).toNat).map fun (k : Nat) => .int (lo + k)
noncomputable def Sm (i : Int) : Prop := -(2 ^ 62) ≤ i ∧ i < 2 ^ 62
noncomputable def wipeD (ρ : DEnv) : List Nat → DEnv
  | [] => ρ
  | v :: vs => (wipeD ρ vs).set v none
/-- the rule of a walk that gathers -/
noncomputable def wpGather (items : List D) (G : DStore → Prop) (S : DStore) (turn : D → DStore → (Option D → DStore → Prop) → Prop) (Q : List D → DStore → Prop) : Prop :=
  ∃ W : Nat → List D → DStore → Prop, W 0 [] S ∧ (∀ i acc S, W i acc S → G S ∧ acc.length ≤ i ∧ i ≤ items.length) ∧ items.length ≤ sizeLine ∧
    (∀ i x acc S, W i acc S → items[i]? = some x → turn x S fun o S' => match o with | some y => W (i + 1) (acc ++ [y]) S' | none => W (i + 1) acc S') ∧
    ∀ acc S, W items.length acc S → Q acc S
noncomputable def wpWalk (items : List D) (G : DStore → Prop) (ρ : DEnv) (S : DStore) (turn : D → DEnv → DStore → (DEnv → DStore → Prop) → Prop) (Q : DEnv → DStore → Prop) : Prop :=
  ∃ W : Nat → DEnv → DStore → Prop, W 0 ρ S ∧ (∀ i ρ S, W i ρ S → G S) ∧
    (∀ i x ρ S, W i ρ S → items[i]? = some x → turn x ρ S (W (i + 1))) ∧ ∀ ρ S, W items.length ρ S → Q ρ S
section
variable (G : Fns)
mutual
noncomputable def wpE : CE → DEnv → DStore → QE → Prop
  | .var i, ρ, S, Q => ∃ d, ρ[i]? = some (some d) ∧ Q d S
  | .con c, _, S, Q => Q c.d S
  | .bin op m a b, ρ, S, Q => wpE a ρ S fun x S1 => wpE b ρ S1 fun y S2 => binD op m x y S2 Q
  | .neg a, ρ, S, Q => wpE a ρ S fun x S1 => ∃ i, x = .int i ∧ Q (.int (-i)) S1
  | .cmp op a b, ρ, S, Q => wpE a ρ S fun x S1 => wpE b ρ S1 fun y S2 => cmpD op S2 x y fun r => Q (.bl r) S2
  | .ite t a b, ρ, S, Q => wpB t ρ S fun r S1 => if r = true then wpE a ρ S1 Q else wpE b ρ S1 Q
  | .tup es, ρ, S, Q => wpEs es ρ S fun ds S1 => Q (.tup ds) S1
  | .lst m es, ρ, S, Q => wpEs es ρ S fun ds S1 => newL m ds S1 Q
  | .ix a i, ρ, S, Q => wpE a ρ S fun x S1 => wpE i ρ S1 fun y S2 => ixD S2 x y fun d => Q d S2
  | .call j es, ρ, S, Q => wpEs es ρ S fun ds S1 => G.fn j ds S1 Q
  | .callK j es kes perm, ρ, S, Q => wpEs es ρ S fun ds S1 => wpEs kes ρ S1 fun ks S2 => G.fn j (ds ++ perm.map fun i => ks.getD i .non) S2 Q
  | .bi b m es, ρ, S, Q => wpEs es ρ S fun ds S1 => biD b m ds S1 Q
  | .sortA m a, ρ, S, Q => wpE a ρ S fun x S1 => ∃ ns : List Int, lstOf S1 x = some (ns.map D.int) ∧ newL m ((ns.mergeSort fun x y => decide (absI x ≤ absI y)).map D.int) S1 Q
  | .dnew, _, S, Q => Q (.ref S.length) (S ++ [.dct []])
  | .dnew1 es v, ρ, S, Q => wpEs es ρ (S ++ [.dct []]) fun ys S1 => wpE v ρ S1 fun z S2 => ∃ ks, keysOf ys = some ks ∧ S2[S.length]? = some (.dct []) ∧ Q (.ref S.length) (S2.set S.length (.dct [(ks, z)]))
  | .ktup es, ρ, S, Q => wpEs es ρ S fun ds S1 => ∃ ks, keysOf ds = some ks ∧ Q (.key ks) S1
  | .lrg m a b, ρ, S, Q => wpE a ρ S fun x S1 => wpE b ρ S1 fun y S2 => ∃ i j, x = .int i ∧ y = .int j ∧ Sm i ∧ Sm j ∧ (j - i).toNat ≤ 1000000 ∧ newL m (rangeD i j) S2 Q
  | .dcomp key val tg it own, ρ, S, Q => wpI it ρ S fun items G S1 => ∃ W : Nat → List (L2.Key × D) → DStore → Prop, W 0 [] S1 ∧ (∀ i acc S, W i acc S → G S ∧ i ≤ items.length) ∧
      (∀ i x acc S, W i acc S → items[i]? = some x → wpG tg x (wipeD ρ own) S fun ρ2 S2 => wpE key ρ2 S2 fun y S3 => wpE val ρ2 S3 fun z S4 => ∃ k, keyOf y = some k ∧ acc.length < sizeLine ∧ W (i + 1) (putD acc k z) S4) ∧
      ∀ acc S, W items.length acc S → Q (.ref S.length) (S ++ [.dkk acc])
  | .ptup a, ρ, S, Q => wpE a ρ S fun x S1 => ∃ xs, lstOf S1 x = some xs ∧ Q (.ptup xs) S1
  | .lz m a b, ρ, S, Q => wpE a ρ S fun x S1 => wpE b ρ S1 fun y S2 => ∃ xs ys, lstOf S2 x = some xs ∧ lstOf S2 y = some ys ∧ (xs.zip ys).length ≤ sizeLine ∧ newL m (zipD xs ys) S2 Q
  | .dget2 a es x, ρ, S, Q => wpE a ρ S fun d S1 => ∃ n, d = .ref n ∧ DAt S1 n ∧ wpEs es ρ S1 fun ys S2 => wpE x ρ S2 fun z S3 => ∃ kvs ks, dctOf S3 n = some kvs ∧ keysOf ys = some ks ∧ Q ((valD kvs ks).getD z) S3
  | .lc m elt tg it ifs own, ρ, S, Q => wpI it ρ S fun items G S1 => wpGather items G S1
      (fun x S' N => wpG tg x (wipeD ρ own) S' fun ρ2 S2 => wpBs ifs ρ2 S2 fun r S3 => if r = true then wpE elt ρ2 S3 fun y S4 => N (some y) S4 else N none S3)
      fun acc S' => newL m acc S' Q
  | .dcS key val tg it ifs own, ρ, S, Q => wpI it ρ S fun items G S1 => wpGather items G S1
      (fun x S' N => wpG tg x (wipeD ρ own) S' fun ρ2 S2 => wpBs ifs ρ2 S2 fun r S3 => if r = true then wpE key ρ2 S3 fun y S4 => wpE val ρ2 S4 fun z S5 => z = .bl true ∧ ∃ st, y = k3D st ∧ N (some y) S5 else N none S3)
      fun acc S' => ∀ ks : List K3, acc = ks.map k3D → Q (.ref S'.length) (S' ++ [.sts (ks.foldl put3D [])])
  | .mk cn j es, ρ, S, Q => wpEs es ρ S fun ds S1 => G.fn j (.ref S1.length :: ds) (S1 ++ [.ins cn []]) fun v S2 => v = .non ∧ Q (.ref S1.length) S2
  | .isiX tp cns a, ρ, S, Q => wpE a ρ S fun x S1 => ∃ n c ds, x = .ref n ∧ S1[n]? = some (.exn c ds) ∧ Q (.bl (cns.any (isX c))) S1
noncomputable def wpEs : List CE → DEnv → DStore → (List D → DStore → Prop) → Prop
  | [], _, S, Q => Q [] S
  | e :: es, ρ, S, Q => wpE e ρ S fun d S1 => wpEs es ρ S1 fun ds S2 => Q (d :: ds) S2
noncomputable def wpO : CO → DEnv → DStore → (Option Int → DStore → Prop) → Prop
  | .no, _, S, Q => Q none S
  | .yes e, ρ, S, Q => wpE e ρ S fun x S1 => ∃ i, x = .int i ∧ Q (some i) S1
noncomputable def wpB : CB → DEnv → DStore → (Bool → DStore → Prop) → Prop
  | .cand a b, ρ, S, Q => wpB a ρ S fun r S1 => if r = true then wpB b ρ S1 Q else Q false S1
  | .cor a b, ρ, S, Q => wpB a ρ S fun r S1 => if r = true then Q true S1 else wpB b ρ S1 Q
  | .cnot a, ρ, S, Q => wpB a ρ S fun r S1 => Q (!r) S1
  | .ccmp op a b, ρ, S, Q => wpE a ρ S fun x S1 => wpE b ρ S1 fun y S2 => cmpD op S2 x y fun r => Q r S2
  | .cval e, ρ, S, Q => wpE e ρ S fun x S1 => truD S1 x fun r => Q r S1
noncomputable def wpBs : List CB → DEnv → DStore → (Bool → DStore → Prop) → Prop
  | [], _, S, Q => Q true S
  | b :: bs, ρ, S, Q => wpB b ρ S fun r S1 => if r = true then wpBs bs ρ S1 Q else Q false S1
noncomputable def wpG : CT → D → DEnv → DStore → (DEnv → DStore → Prop) → Prop
  | .name i, d, ρ, S, Q => Q (ρ.set i (some d)) S
  | .tup ts, d, ρ, S, Q => unpD S d fun xs => xs.length = ts.length ∧ wpGs ts xs ρ S Q
  | .sub a i, d, ρ, S, Q => wpE a ρ S fun x S1 => wpE i ρ S1 fun y S2 => ∃ n xs k j, x = .ref n ∧ y = .int k ∧ S2[n]? = some (.lst xs) ∧ ixN xs.length k = some j ∧ Q ρ (S2.set n (.lst (xs.set j d)))
  | .dsub a es, d, ρ, S, Q => wpE a ρ S fun x S1 => wpEs es ρ S1 fun ys S2 => ∃ n kvs ks, x = .ref n ∧ S2[n]? = some (.dct kvs) ∧ keysOf ys = some ks ∧ kvs.length < sizeLine ∧ Q ρ (S2.set n (.dct (putD kvs ks d)))
  | .ksub a i, d, ρ, S, Q => wpE a ρ S fun x S1 => wpE i ρ S1 fun y S2 => ∃ n kvs ks, x = .ref n ∧ y = .key ks ∧ S2[n]? = some (.dct kvs) ∧ kvs.length < sizeLine ∧ Q ρ (S2.set n (.dct (putD kvs ks d)))
  | .kput a i, d, ρ, S, Q => wpE a ρ S fun x S1 => wpE i ρ S1 fun y S2 => ∃ n kvs k, x = .ref n ∧ S2[n]? = some (.dkk kvs) ∧ keyOf y = some k ∧ kvs.length < sizeLine ∧ Q ρ (S2.set n (.dkk (putD kvs k d)))
  | .sput a i, d, ρ, S, Q => wpE a ρ S fun x S1 => wpE i ρ S1 fun y S2 => ∃ n ks st, x = .ref n ∧ y = k3D st ∧ d = .bl true ∧ S2[n]? = some (.sts ks) ∧ ks.length < sizeLine ∧ Q ρ (S2.set n (.sts (put3D ks st)))
noncomputable def wpGs : List CT → List D → DEnv → DStore → (DEnv → DStore → Prop) → Prop
  | [], _, ρ, S, Q => Q ρ S
  | t :: ts, ds, ρ, S, Q => ∃ d r, ds = d :: r ∧ wpG t d ρ S fun ρ1 S1 => wpGs ts r ρ1 S1 Q
noncomputable def wpI : CI → DEnv → DStore → RI → Prop
  | .seq e, ρ, S, R => wpE e ρ S fun x S1 => itD S1 x R
  | .range1 a, ρ, S, R => wpE a ρ S fun x S1 => ∃ j, x = .int j ∧ Sm j ∧ R (rangeD 0 j) (fun _ => True) S1
  | .range2 a b, ρ, S, R => wpE a ρ S fun x S1 => wpE b ρ S1 fun y S2 => ∃ i j, x = .int i ∧ y = .int j ∧ Sm i ∧ Sm j ∧ R (rangeD i j) (fun _ => True) S2
  | .range3 a b c, ρ, S, R => wpE a ρ S fun x S1 => wpE b ρ S1 fun y S2 => wpE c ρ S2 fun z S3 => ∃ i j k n, x = .int i ∧ y = .int j ∧ z = .int k ∧ RgC i j k n ∧ R (range3D i k n) (fun _ => True) S3
  | .enum a, ρ, S, R => wpE a ρ S fun x S1 => enumP S1 x R
  | .keys e, ρ, S, R => wpE e ρ S fun x S1 => ∃ n kvs, x = .ref n ∧ S1[n]? = some (.dlk kvs) ∧ R (kvs.map fun p => D.tup (p.1.map keyD)) (fun _ => True) S1
  | .items e, ρ, S, R => wpE e ρ S fun x S1 => ∃ n kvs, x = .ref n ∧ S1[n]? = some (.dlk kvs) ∧ R (kvs.map fun p => D.tup [D.tup (p.1.map keyD), p.2]) (fun _ => True) S1
end
/-- the value to a name, where there is one -/
noncomputable def setO (j : Option Nat) (ρ : DEnv) (d : D) : DEnv := match j with
  | none => ρ
  | some i => ρ.set i (some d)
noncomputable def wpR : XR → DEnv → DStore → QE → QX → Prop
  | .fn j es, ρ, S, Q, QX => wpEs G es ρ S fun ds S1 => G.fx j ds S1 Q QX
  | .mk cn j es, ρ, S, Q, QX => wpEs G es ρ S fun ds S1 => G.fx j (.ref S1.length :: ds) (S1 ++ [.ins cn []]) (fun v S2 => v = .non ∧ Q (.ref S1.length) S2) QX
mutual
noncomputable def wpS : CS → DEnv → DStore → DEnds → Prop
  | .ret e, ρ, S, K => wpE G e ρ S K.rt
  | .brk, ρ, S, K => K.bk ρ S
  | .never, _, _, _ => False
  | .asg t e, ρ, S, K => wpE G e ρ S fun d S1 => wpG G t d ρ S1 K.nx
  | .par2 i j a b, ρ, S, K => wpE G a ρ S fun x S1 => wpE G b ρ S1 fun y S2 => K.nx ((ρ.set i (some x)).set j (some y)) S2
  | .aug i op e, ρ, S, K => ∃ x, ρ[i]? = some (some x) ∧ wpE G e ρ S fun y S1 => i2 x y fun a b => match op with
      | .Add => K.nx (ρ.set i (some (.int (a + b)))) S1
      | .Sub => K.nx (ρ.set i (some (.int (a - b)))) S1
      | _ => False
  | .append a e, ρ, S, K => wpE G a ρ S fun x S1 => ∃ n, x = .ref n ∧ LAt S1 n ∧ wpE G e ρ S1 fun y S2 => ∃ xs, S2[n]? = some (.lst xs) ∧ xs.length < sizeLine ∧ K.nx ρ (S2.set n (.lst (xs ++ [y])))
  | .extend a e, ρ, S, K => wpE G a ρ S fun x S1 => ∃ n, x = .ref n ∧ LAt S1 n ∧ wpE G e ρ S1 fun y S2 => ∃ xs zs, S2[n]? = some (.lst xs) ∧ lstOf S2 y = some zs ∧ xs.length + zs.length ≤ sizeLine ∧ K.nx ρ (S2.set n (.lst (xs ++ zs)))
  | .if_ c a b, ρ, S, K => wpB G c ρ S fun r S1 => if r = true then wpSs a ρ S1 K else wpSs b ρ S1 K
  | .for_ t it b, ρ, S, K => wpI G it ρ S fun items I S1 => wpWalk items I ρ S1 (fun x ρ' S' N => wpG G t x ρ' S' fun ρ2 S2 => wpSs b ρ2 S2 { K with nx := N, ct := N, bk := K.nx }) K.nx
  | .lock s, ρ, S, K => ∃ n kvs, S[n]? = some (.dct kvs) ∧ wpS s ρ (S.set n (.dlk kvs)) ⟨fun ρ' S' => K.nx ρ' (S'.set n (.dct kvs)), fun d S' => K.rt d (S'.set n (.dct kvs)), fun ρ' S' => K.bk ρ' (S'.set n (.dct kvs)), fun ρ' S' => K.ct ρ' (S'.set n (.dct kvs))⟩
  | .raise0 c, _, S, _ => G.xc c [] S
  | .tryC j r k i, ρ, S, K => wpR G r ρ S (fun d S1 => K.nx (setO j ρ d) S1) (fun c ds S' => k < ρ.length ∧ K.nx (((ρ.set k none).set i (some (.ref S'.length))).set k none) (S' ++ [.exn c ds]))
noncomputable def wpSs : List CS → DEnv → DStore → DEnds → Prop
  | [], ρ, S, K => K.nx ρ S
  | s :: ss, ρ, S, K => wpS s ρ S { K with nx := fun ρ1 S1 => wpSs ss ρ1 S1 K }
end
end
end DL
namespace DL
open PySem PySem.Spec PyProof.Rows L2
noncomputable abbrev TD := DEnv → DStore → QE → Prop
noncomputable def Post (K : PySem.W.Frag) (η μ : List Addr) (H : Hp) (QD : QE) (v : V) (H' : Hp) : Prop := ∃ d S' μ', Grow μ H μ' H' ∧ Rp K η μ' S' H' ∧ RV K H' η μ' d v ∧ QD d S'
noncomputable def Posts (K : PySem.W.Frag) (η μ : List Addr) (H : Hp) (QD : List D → DStore → Prop) (vs : List V) (H' : Hp) : Prop := ∃ ds S' μ', Grow μ H μ' H' ∧ Rp K η μ' S' H' ∧ RVs K H' η μ' ds vs ∧ QD ds S'
noncomputable def PostA {α : Type} (K : PySem.W.Frag) (η μ : List Addr) (H : Hp) (QD : α → DStore → Prop) (b : α) (H' : Hp) : Prop := ∃ S' μ', Grow μ H μ' H' ∧ Rp K η μ' S' H' ∧ QD b S'
noncomputable def tOf (K : PySem.W.Frag) (T : TD) : TE := fun σ H Q => ∃ η μ ρ S QD, RE K H η μ ρ σ ∧ Rp K η μ S H ∧ T ρ S QD ∧ ∀ v H', Post K η μ H QD v H' → Q v H'
noncomputable def aOf (K : PySem.W.Frag) (n : Nat) (T : DEnv → DStore → (List D → DStore → Prop) → Prop) : TA := fun σ H Q => ∃ η μ ρ S QD, RE K H η μ ρ σ ∧ Rp K η μ S H ∧ T ρ S QD ∧ ∀ v H', Posts K η μ H QD v H' → v.length = n → Q v H'
noncomputable def bOf {α : Type} (K : PySem.W.Frag) (T : DEnv → DStore → (α → DStore → Prop) → Prop) : St → Hp → (α → Hp → Prop) → Prop := fun σ H Q => ∃ η μ ρ S QD, RE K H η μ ρ σ ∧ Rp K η μ S H ∧ T ρ S QD ∧ ∀ v H', PostA K η μ H QD v H' → Q v H'
noncomputable def DE (X : Cx) (e : Expr) (T : TD) : Prop := PE X e (tOf X.K T)
noncomputable def DB (X : Cx) (e : Expr) (T : DEnv → DStore → (Bool → DStore → Prop) → Prop) : Prop := PT X e (bOf X.K T)
/-- how the fields of an exception stand in its dict -/
noncomputable def XRel (c : Str) (vs : List V) (H : Hp) (d : Option Addr) (H' : Hp) : Prop := c ∈ xnm ∧ ((xfld c = [] ∧ vs = [] ∧ d = none ∧ H' = H) ∨ ∃ f v dx, xfld c = [f] ∧ vs = [v] ∧ d = some dx ∧ H dx = none ∧ H' = upd H dx (.xd [(f, v)]))
theorem XRel.keep {K : PySem.W.Frag} {η μ : List Addr} {S : DStore} {c : Str} {vs : List V} {H H' : Hp} {d : Option Addr} (x : XRel c vs H d H') (r : Rp K η μ S H) : Rp K η μ S H' ∧ Grow μ H μ H' := by
  obtain ⟨_, ⟨_, _, _, rfl⟩ | ⟨f, v, dx, _, _, _, h, rfl⟩⟩ := x
  · exact ⟨r, .refl⟩
  · exact ⟨rp_new r h, grow_new r h⟩
/-- what leaves by an exception -/
noncomputable def XEnd (K : PySem.W.Frag) (η μ : List Addr) (H : Hp) (σ : L2.St) (QD : Str → List D → DStore → Prop) (W : WX) : Prop := ∀ c ds S' vs μ' H' C d H'', Grow μ H μ' H' → Rp K η μ' S' H' → RVs K H' η μ' ds vs → PySem.W.nsIn K mainGlobals c = some (some (.ref C)) → XRel c vs H' d H'' → QD c ds S' → W (.ref C) d σ H''
theorem XEnd.from {K : PySem.W.Frag} {η μ μ1 : List Addr} {H H1 : Hp} {σ : L2.St} {Q : QX} {W : WX} (g : Grow μ H μ1 H1) (h : XEnd K η μ H σ Q W) : XEnd K η μ1 H1 σ Q W :=
  fun c ds S' vs μ' H' C d H'' g' => h c ds S' vs μ' H' C d H'' (g.trans g')
structure EndsOk (K : PySem.W.Frag) (qx : QX) (W : WX) (η μ : List Addr) (H : Hp) (ED : DEnds) (E : Ends) : Prop where
  nx : ∀ ρ' S' σ' μ' H', Grow μ H μ' H' → Rp K η μ' S' H' → RE K H' η μ' ρ' σ' → ED.nx ρ' S' → E.nx σ' H'
  rt : ∀ d S' v μ' H', Grow μ H μ' H' → Rp K η μ' S' H' → RV K H' η μ' d v → ED.rt d S' → E.rt v H'
  bk : ∀ ρ' S' σ' μ' H', Grow μ H μ' H' → Rp K η μ' S' H' → RE K H' η μ' ρ' σ' → ED.bk ρ' S' → E.bk σ' H'
  ct : ∀ ρ' S' σ' μ' H', Grow μ H μ' H' → Rp K η μ' S' H' → RE K H' η μ' ρ' σ' → ED.ct ρ' S' → E.ct σ' H'
  xc : ∀ σ', XEnd K η μ H σ' qx W
noncomputable def sOf (K : PySem.W.Frag) (qx : QX) (W : WX) (T : DEnv → DStore → DEnds → Prop) : TS := fun E σ H => ∃ η μ ρ S ED, RE K H η μ ρ σ ∧ Rp K η μ S H ∧ T ρ S ED ∧ EndsOk K qx W η μ H ED E
noncomputable def JOk (K : PySem.W.Frag) (η μ : List Addr) (H : Hp) (J : It) (items : List D) (I : DStore → Prop) : Prop :=
  ∀ (i : Nat) η' μ' S' H', Ext η μ H η' μ' H' → Rp K η' μ' S' H' → I S' →
    (i < items.length → J.go i H' ∧ ∀ x H'', J.yld i H' x H'' → Grow μ' H' μ' H'' ∧ Rp K η' μ' S' H'' ∧ ∃ d, items[i]? = some d ∧ RV K H'' η' μ' d x) ∧ (items.length ≤ i → i ≤ items.length → J.stop i H')
noncomputable def iOf (K : PySem.W.Frag) (T : DEnv → DStore → RI → Prop) : TI := fun σ H R => ∃ η μ ρ S RD, RE K H η μ ρ σ ∧ Rp K η μ S H ∧ T ρ S RD ∧
  ∀ J H1 items I S1 μ1, Grow μ H μ1 H1 → Rp K η μ1 S1 H1 → RD items I S1 → JOk K η μ1 H1 J items I → R J H1
section
variable {X : Cx}
theorem PE.imp {e : Expr} {t t' : TE} (h : PE X e t) (i : ∀ σ H Q, t' σ H Q → t σ H Q) : PE X e t' := ⟨fun pins s σ H Q I q => h.run pins s σ H Q I (i _ _ _ q)⟩
theorem PT.imp {e : Expr} {t t' : TT} (h : PT X e t) (i : ∀ σ H Q, t' σ H Q → t σ H Q) : PT X e t' := ⟨fun pins s σ H Q I q => h.run pins s σ H Q I (i _ _ _ q)⟩
theorem PW.imp {e : Expr} {t t' : TT} (h : PW X e t) (i : ∀ σ H Q, t' σ H Q → t σ H Q) : PW X e t' := ⟨fun wh pins s σ H Q I q => h.run wh pins s σ H Q I (i _ _ _ q)⟩
theorem PTs.imp {e : List Expr} {t t' : TT} (h : PTs X e t) (i : ∀ σ H Q, t' σ H Q → t σ H Q) : PTs X e t' := ⟨fun pins s σ H Q I q => h.run pins s σ H Q I (i _ _ _ q)⟩
theorem PA.imp {e : List Expr} {t t' : TA} (h : PA X e t) (i : ∀ σ H Q, t' σ H Q → t σ H Q) : PA X e t' := ⟨fun pos pins s σ H Q I q => h.run pos pins s σ H Q I (i _ _ _ q)⟩
theorem PK.imp {e : List Keyword} {t t' : TA} (h : PK X e t) (i : ∀ σ H Q, t' σ H Q → t σ H Q) : PK X e t' := ⟨fun pos pins s σ H Q I q => h.run pos pins s σ H Q I (i _ _ _ q)⟩
theorem PO.imp {e : Option Expr} {t t' : TO} (h : PO X e t) (i : ∀ σ H Q, t' σ H Q → t σ H Q) : PO X e t' := ⟨fun pins s σ H Q I q => h.run pins s σ H Q I (i _ _ _ q)⟩
theorem PI.imp {tg e : Expr} {t t' : TI} (h : PI X tg e t) (i : ∀ σ H Q, t' σ H Q → t σ H Q) : PI X tg e t' := ⟨fun pins s σ H Q I q => h.run pins s σ H Q I (i _ _ _ q)⟩
theorem PS.imp {e : Stmt} {t t' : TS} (h : PS X e t) (i : ∀ E σ H, t' E σ H → t E σ H) : PS X e t' := ⟨fun pins s σ H E I q => h.run pins s σ H E I (i _ _ _ q)⟩
theorem PSs.imp {e : List Stmt} {t t' : TS} (h : PSs X e t) (i : ∀ E σ H, t' E σ H → t E σ H) : PSs X e t' := ⟨fun pins s σ H E I q => h.run pins s σ H E I (i _ _ _ q)⟩
theorem PI.or {tg e : Expr} {t t' : TI} (h : PI X tg e t) (h' : PI X tg e t') : PI X tg e (fun σ H R => t σ H R ∨ t' σ H R) := ⟨fun pins s σ H Q I q => q.elim (h.run pins s σ H Q I) (h'.run pins s σ H Q I)⟩
theorem PE.or {e : Expr} {t t' : TE} (h : PE X e t) (h' : PE X e t') : PE X e (fun σ H R => t σ H R ∨ t' σ H R) := ⟨fun pins s σ H Q I q => q.elim (h.run pins s σ H Q I) (h'.run pins s σ H Q I)⟩
theorem DE.mk {e : Expr} {t : TE} {T : TD} (h : PE X e t) (i : ∀ η μ ρ S σ H (Q : VK) (QD : QE), RE X.K H η μ ρ σ → Rp X.K η μ S H → T ρ S QD → (∀ v H', Post X.K η μ H QD v H' → Q v H') → t σ H Q) : DE X e T :=
  PE.imp h fun σ H Q ⟨η, μ, ρ, S, QD, hE, hR, hT, hQ⟩ => i η μ ρ S σ H Q QD hE hR hT hQ
theorem DB.mk {e : Expr} {t : TT} {T} (h : PT X e t) (i : ∀ η μ ρ S σ H (Q : Bool → Hp → Prop) (QD : Bool → DStore → Prop), RE X.K H η μ ρ σ → Rp X.K η μ S H → T ρ S QD → (∀ v H', PostA X.K η μ H QD v H' → Q v H') → t σ H Q) : DB X e T :=
  PT.imp h fun σ H Q ⟨η, μ, ρ, S, QD, hE, hR, hT, hQ⟩ => i η μ ρ S σ H Q QD hE hR hT hQ
/-- one after another: hand on -/
theorem use {K : PySem.W.Frag} {η μ : List Addr} {ρ : DEnv} {S : DStore} {σ : St} {H : Hp} {T : TD} {QD : QE} {Q : VK} (hE : RE K H η μ ρ σ) (hR : Rp K η μ S H) (hT : T ρ S QD)
    (hQ : ∀ d S1 v μ1 H1, Grow μ H μ1 H1 → Rp K η μ1 S1 H1 → RE K H1 η μ1 ρ σ → RV K H1 η μ1 d v → QD d S1 → Q v H1) : tOf K T σ H Q :=
  ⟨η, μ, ρ, S, QD, hE, hR, hT, fun v H1 ⟨d, S1, μ1, g, r, rv, q⟩ => hQ d S1 v μ1 H1 g r (hE.ext g.ext) rv q⟩
theorem useA {K : PySem.W.Frag} {n : Nat} {η μ : List Addr} {ρ : DEnv} {S : DStore} {σ : St} {H : Hp} {T} {QD : List D → DStore → Prop} {Q : List V → Hp → Prop} (hE : RE K H η μ ρ σ) (hR : Rp K η μ S H) (hT : T ρ S QD)
    (hQ : ∀ ds S1 vs μ1 H1, Grow μ H μ1 H1 → Rp K η μ1 S1 H1 → RE K H1 η μ1 ρ σ → RVs K H1 η μ1 ds vs → vs.length = n → QD ds S1 → Q vs H1) : aOf K n T σ H Q :=
  ⟨η, μ, ρ, S, QD, hE, hR, hT, fun v H1 ⟨d, S1, μ1, g, r, rv, q⟩ hl => hQ d S1 v μ1 H1 g r (hE.ext g.ext) rv hl q⟩
theorem useB {α : Type} {K : PySem.W.Frag} {η μ : List Addr} {ρ : DEnv} {S : DStore} {σ : St} {H : Hp} {T} {QD : α → DStore → Prop} {Q : α → Hp → Prop} (hE : RE K H η μ ρ σ) (hR : Rp K η μ S H) (hT : T ρ S QD)
    (hQ : ∀ b S1 μ1 H1, Grow μ H μ1 H1 → Rp K η μ1 S1 H1 → RE K H1 η μ1 ρ σ → QD b S1 → Q b H1) : bOf K T σ H Q :=
  ⟨η, μ, ρ, S, QD, hE, hR, hT, fun v H1 ⟨S1, μ1, g, r, q⟩ => hQ v S1 μ1 H1 g r (hE.ext g.ext) q⟩
theorem useS {K : PySem.W.Frag} {qx : QX} {W : WX} {η μ : List Addr} {ρ : DEnv} {S : DStore} {σ : St} {H : Hp} {T : DEnv → DStore → DEnds → Prop} {ED : DEnds} {E : Ends} (hE : RE K H η μ ρ σ) (hR : Rp K η μ S H) (hT : T ρ S ED) (hQ : EndsOk K qx W η μ H ED E) : sOf K qx W T E σ H :=
  ⟨η, μ, ρ, S, ED, hE, hR, hT, hQ⟩
theorem EndsOk.grow {K : PySem.W.Frag} {qx : QX} {W : WX} {η μ μ1 : List Addr} {H H1 : Hp} {ED : DEnds} {E : Ends} (h : EndsOk K qx W η μ H ED E) (g : Grow μ H μ1 H1) : EndsOk K qx W η μ1 H1 ED E :=
  ⟨fun ρ S σ μ' H' g' => h.nx ρ S σ μ' H' (g.trans g'), fun ρ S σ μ' H' g' => h.rt ρ S σ μ' H' (g.trans g'), fun ρ S σ μ' H' g' => h.bk ρ S σ μ' H' (g.trans g'), fun ρ S σ μ' H' g' => h.ct ρ S σ μ' H' (g.trans g'), fun σ => (h.xc σ).from g⟩
end
section
variable {X : Cx} {K : PySem.W.Frag} {η μ : List Addr} {S : DStore} {H : Hp}
theorem lst_of (r : Rp K η μ S H) {d : D} {v : V} {xs : List D} (rv : RV K H η μ d v) (e : lstOf S d = some xs) : ∃ a vs, v = .ref a ∧ H a = some (.lst vs) ∧ RVs K H η μ xs vs := by
  cases rv with
  | lst hm hn h q => simp [lstOf] at e; subst e; exact ⟨_, _, rfl, h, q⟩
  | @ref n a h =>
    simp only [lstOf] at e
    cases q : S[n]? with
    | none => rw [q] at e; cases e
    | some c =>
      obtain ⟨b, hb, hc⟩ := r.cell n c q
      rw [h] at hb; cases hb
      rw [q] at e
      cases c with
      | lst ys =>
        simp at e; subst e
        obtain ⟨vs, e1, e2⟩ := hc
        exact ⟨a, vs, rfl, e1, e2⟩
      | dct ys => simp at e
      | dlk ys => simp at e
      | dkk ys => simp at e
      | dkl ys => simp at e
      | sts ys => simp at e
      | stl ys => simp at e
      | tks ys => simp at e
      | ins cn ys => simp at e
      | exn cn ys => simp at e
  | _ => simp [lstOf] at e
theorem seq_of (r : Rp K η μ S H) {d : D} {v : V} {xs : List D} (rv : RV K H η μ d v) (e : seqOf S d = some xs) : ∃ a vs, v = .ref a ∧ (SqL K H a vs ∨ SqT K H a vs) ∧ RVs K H η μ xs vs := by
  cases rv with
  | tup h q => simp [seqOf] at e; subst e; exact ⟨_, _, rfl, .inr h, q⟩
  | scr h q => simp [seqOf] at e; subst e; exact ⟨_, _, rfl, .inl (h.elim (fun ⟨o, z⟩ => .inl (.inr ⟨o, z⟩)) fun z => z H), q⟩
  | lst hm hn h q =>
    obtain ⟨a, vs, e1, e2, e3⟩ := lst_of r (.lst hm hn h q) e
    exact ⟨a, vs, e1, .inl (.inl (.inl e2)), e3⟩
  | ref h =>
    obtain ⟨a, vs, e1, e2, e3⟩ := lst_of r (.ref h) e
    exact ⟨a, vs, e1, .inl (.inl (.inl e2)), e3⟩
  | _ => simp [seqOf, lstOf] at e
/-- a new list, kept or to be changed -/
theorem new_lst (r : Rp K η μ S H) {m : Bool} {ds : List D} {vs : List V} {QD : QE} (rv : RVs K H η μ ds vs) (h : newL m ds S QD) (p : Addr) (hp : H p = none) : Post K η μ H QD (.ref p) (upd H p (.lst vs)) := by
  cases m with
  | true => exact ⟨_, _, _, grow_cell r hp, rp_cell r hp rv, rv_cell r, h⟩
  | false => exact ⟨_, _, _, grow_new r hp, rp_new r hp, rv_new_lst r hp rv, h⟩
theorem new_tup (r : Rp K η μ S H) {ds : List D} {vs : List V} {QD : QE} (rv : RVs K H η μ ds vs) (h : QD (.tup ds) S) (p : Addr) (hp : H p = none) : Post K η μ H QD (.ref p) (upd H p (.tup vs)) :=
  ⟨_, _, _, grow_new r hp, rp_new r hp, rv_new_tup r hp rv, h⟩
theorem stay (r : Rp K η μ S H) {d : D} {v : V} {QD : QE} (rv : RV K H η μ d v) (h : QD d S) : Post K η μ H QD v H := ⟨_, _, _, .refl, r, rv, h⟩
theorem Post.from {μ1 : List Addr} {H1 H' : Hp} {QD : QE} {v : V} (g : Grow μ H μ1 H1) (h : Post K η μ1 H1 QD v H') : Post K η μ H QD v H' :=
  let ⟨d, S', μ', g', r, rv, q⟩ := h
  ⟨d, S', μ', g.trans g', r, rv, q⟩
/-- an operator by data -/
noncomputable def BinR (X : Cx) (op : Operator) (r : R2) : Prop := OpR X (binaryOp op) r ∧ ∀ {η μ S H m x y v u QD Q}, Rp X.K η μ S H → RV X.K H η μ x v → RV X.K H η μ y u → binD op m x y S QD → (∀ v H', Post X.K η μ H QD v H' → Q v H') → r v u H Q
theorem rI_of {C : Int → Int → Prop} {g : Int → Int → Int} {x y : D} {v u : V} {QD : QE} {Q : VK} (r : Rp K η μ S H) (rx : RV K H η μ x v) (ry : RV K H η μ y u) (h : i2 x y fun i j => C i j ∧ QD (.int (g i j)) S) (hQ : ∀ v H', Post K η μ H QD v H' → Q v H') :
    L2.rI C (fun i j => .int (g i j)) v u H Q := by
  cases rx <;> cases ry <;> simp only [i2] at h
  exact ⟨_, _, rfl, rfl, h.1, hQ _ _ (stay r (.int _) h.2)⟩
theorem rI0_of {g : Int → Int → Int} {x y : D} {v u : V} {QD : QE} {Q : VK} (r : Rp K η μ S H) (rx : RV K H η μ x v) (ry : RV K H η μ y u) (h : i2 x y fun i j => QD (.int (g i j)) S) (hQ : ∀ v H', Post K η μ H QD v H' → Q v H') :
    L2.rI0 (fun i j => .int (g i j)) v u H Q := by
  cases rx <;> cases ry <;> simp only [i2] at h
  exact ⟨_, _, rfl, rfl, hQ _ _ (stay r (.int _) h)⟩
theorem op_fdivA : OpR X (binaryOp .FloorDiv) (L2.rI (fun _ j => DivOk j) fun i j => .int (i.fdiv j)) := opI fun i j _ _ _ _ _ hc q => floordiv_int hc.1 q (.inl (PyProof.noPylong_of_log2 hc.2))
theorem op_mulA : OpR X (binaryOp .Mult) (L2.rI MulOk fun i j => .int (i * j)) := opI fun _ _ _ _ _ _ _ hc q => mul_int q (hc.elim (fun h => h.ok) fun h => h.ok)
theorem rvs_rep {K : PySem.W.Frag} {η μ : List Addr} {H : Hp} {ds : List D} {xs : List V} (q : RVs K H η μ ds xs) : ∀ n : Nat, RVs K H η μ (List.replicate n ds).flatten (List.replicate n xs).flatten
  | 0 => .nil
  | n + 1 => by rw [List.replicate_succ, List.replicate_succ, List.flatten_cons, List.flatten_cons]; exact q.append (rvs_rep q n)
theorem op_powA : OpR X (binaryOp .Pow) (L2.rI PowOk fun i j => .int (i ^ j.toNat)) := opI fun _ _ _ _ _ _ _ hc q => pow_int hc.1 hc.2 q
theorem binR : ∀ op, ∃ r, BinR X op r
  | .Add => ⟨_, op_add.or (op_add_str.or (op_catA.or op_cat)), fun {η μ S H m x y v u QD Q} r rx ry h hQ => by
      simp only [binD, addD] at h
      split at h
      · cases rx; cases ry; exact .inl ⟨_, _, rfl, rfl, hQ _ _ (stay r (.int _) h)⟩
      · cases rx; cases ry; exact .inr (.inl ⟨_, _, rfl, rfl, h.1, hQ _ _ (stay r (.str _) h.2)⟩)
      · cases rx with
        | @tup a xs ds h1 q1 =>
          cases ry with
          | @tup b ys es h2 q2 =>
            refine .inr (.inr (.inl ⟨_, _, _, _, rfl, rfl, h1, h2, ?_, ?_, ?_, ?_⟩))
            · rw [← q1.length, ← q2.length]; exact h.1
            · intro z; subst z; cases q1; exact hQ _ _ (stay r (.tup h2 q2) h.2)
            · intro _ z; subst z; cases q2; rw [List.append_nil] at h; exact hQ _ _ (stay r (.tup h1 q1) h.2)
            · intro _ _ p hp; exact hQ _ _ (new_tup r (q1.append q2) h.2 p hp)
      · obtain ⟨a, b, e1, e2, hl, hn⟩ := h
        obtain ⟨p1, v1, rfl, h1, q1⟩ := lst_of r rx e1
        obtain ⟨p2, v2, rfl, h2, q2⟩ := lst_of r ry e2
        exact .inr (.inr (.inr ⟨_, _, _, _, rfl, rfl, h1, h2, by rw [← q1.length, ← q2.length]; exact hl, fun p hp => hQ _ _ (new_lst r (q1.append q2) hn p hp)⟩))⟩
  | .Sub => ⟨_, op_sub, fun r rx ry h hQ => rI0_of r rx ry h hQ⟩
  | .Mult => ⟨_, op_mulA.or (op_repT.or (op_rep1.or (op_rep0.or op_rep))), fun {η μ S H m x y v u QD Q} r rx ry h hQ => by
      simp only [binD, mulD] at h
      split at h
      · cases rx; cases ry; exact .inl ⟨_, _, rfl, rfl, h.1, hQ _ _ (stay r (.int _) h.2)⟩
      · cases ry
        rename_i k
        obtain ⟨h0, h1, h2, h3, h4⟩ := h
        cases rx with
        | @tup a xs _ ht q1 =>
          by_cases hk : k = 1
          · subst hk
            refine .inr (.inr (.inl ⟨_, _, rfl, rfl, ht, hQ _ _ (stay r (.tup ht q1) ?_)⟩))
            simpa using h4
          by_cases hk0 : k = 0
          · subst hk0
            refine .inr (.inr (.inr (.inl ⟨_, _, rfl, rfl, ht, fun z => ?_, fun p hp => hQ _ _ (new_tup r .nil ?_ p hp)⟩)))
            · subst z
              cases q1
              exact h0 rfl
            · simpa using h4
          refine .inr (.inl ⟨_, _, _, rfl, rfl, ht, fun z => ?_, by omega, h2, by rw [← q1.length]; exact h3, fun p hp => hQ _ _ (new_tup r (rvs_rep q1 _) h4 p hp)⟩)
          subst z
          cases q1
          exact h0 rfl
      · obtain ⟨a, e1, h1, h2, hl, hn⟩ := h
        obtain ⟨p1, v1, rfl, hp1, q1⟩ := lst_of r rx e1
        cases ry
        rename_i k _
        have rep : ∀ n : Nat, RVs X.K H η μ (List.replicate n a).flatten (List.replicate n v1).flatten := fun n => by
          induction n with
          | zero => exact .nil
          | succ n ih => rw [List.replicate_succ, List.replicate_succ, List.flatten_cons, List.flatten_cons]; exact q1.append ih
        exact .inr (.inr (.inr (.inr ⟨_, _, _, rfl, rfl, hp1, h1, h2, by rw [← q1.length]; exact hl, fun p hp => hQ _ _ (new_lst r (rep _) hn p hp)⟩)))
      · exact h.elim⟩
  | .FloorDiv => ⟨_, op_fdivA, fun r rx ry h hQ => rI_of r rx ry h hQ⟩
  | .Mod => ⟨_, op_modN, fun r rx ry h hQ => rI_of r rx ry h hQ⟩
  | .Pow => ⟨_, op_powA, fun r rx ry h hQ => rI_of r rx ry h hQ⟩
  | .LShift => ⟨_, op_shlW, fun r rx ry h hQ => rI_of r rx ry h hQ⟩
  | .RShift => ⟨_, op_shr, fun r rx ry h hQ => rI_of r rx ry h hQ⟩
  | .MatMult => ⟨fun _ _ _ _ => False, fun _ _ _ _ _ _ _ _ _ _ _ _ h => h.elim, fun _ _ _ h _ => h.elim⟩
  | .Div => ⟨fun _ _ _ _ => False, fun _ _ _ _ _ _ _ _ _ _ _ _ h => h.elim, fun _ _ _ h _ => h.elim⟩
  | .BitOr => ⟨fun _ _ _ _ => False, fun _ _ _ _ _ _ _ _ _ _ _ _ h => h.elim, fun _ _ _ h _ => h.elim⟩
  | .BitXor => ⟨fun _ _ _ _ => False, fun _ _ _ _ _ _ _ _ _ _ _ _ h => h.elim, fun _ _ _ h _ => h.elim⟩
  | .BitAnd => ⟨fun _ _ _ _ => False, fun _ _ _ _ _ _ _ _ _ _ _ _ h => h.elim, fun _ _ _ h _ => h.elim⟩
end
end DL
namespace DL
open PySem PySem.Spec PyProof.Rows L2
section
variable {X : Cx} {K : PySem.W.Frag} {η μ : List Addr} {S : DStore} {H : Hp}
mutual
theorem dp_of : ∀ {d : D} {v : V} {p : PyData}, RV K H η μ d v → pur d = some p → Dp K H v p
  | _, _, _, .non, e => by simp [pur] at e; subst e; exact .non
  | _, _, _, .bl b, e => by simp [pur] at e; subst e; exact .bl b
  | _, _, _, .int b, e => by simp [pur] at e; subst e; exact .int b
  | _, _, _, .str b, e => by simp [pur] at e; subst e; exact .str b
  | _, _, _, .tup h q, e => by
    simp only [pur, Option.map_eq_some_iff] at e
    obtain ⟨ps, e1, rfl⟩ := e
    exact .tup h (dps_of q e1)
  | _, _, _, .lst hm hn h q, e => by
    simp only [pur, Option.map_eq_some_iff] at e
    obtain ⟨ps, e1, rfl⟩ := e
    exact .lst (.inl (.inl h)) (dps_of q e1)
  | _, _, _, .scr _ _, e => by simp [pur] at e
  | _, _, _, .ptup _ _ _, e => by simp [pur] at e
  | _, _, _, .ref _, e => by simp [pur] at e
theorem dps_of : ∀ {ds : List D} {vs : List V} {ps : List PyData}, RVs K H η μ ds vs → purs ds = some ps → DpAll K H vs ps
  | _, _, _, .nil, e => by simp [purs] at e; subst e; exact .nil
  | _, _, _, .cons h q, e => by
    simp only [purs, Option.bind_eq_some_iff, Option.map_eq_some_iff] at e
    obtain ⟨p, e1, ps, e2, rfl⟩ := e
    exact .cons (dp_of h e1) (dps_of q e2)
end
theorem dpS_of (r : Rp K η μ S H) {d : D} {v : V} {p : PyData} (rv : RV K H η μ d v) (e : purS S d = some p) : Dp K H v p := by
  cases rv with
  | @ref n a h =>
    simp only [purS, Option.map_eq_some_iff, Option.bind_eq_some_iff] at e
    obtain ⟨ps, ⟨xs, e1, e2⟩, rfl⟩ := e
    obtain ⟨b, vs, e3, e4, q⟩ := lst_of r (.ref h) e1
    cases e3
    exact .lst (.inl (.inl e4)) (dps_of q e2)
  | non => exact dp_of (η := η) (μ := μ) .non e
  | bl b => exact dp_of (η := η) (μ := μ) (.bl b) e
  | int b => exact dp_of (η := η) (μ := μ) (.int b) e
  | str b => exact dp_of (η := η) (μ := μ) (.str b) e
  | tup h q => exact dp_of (η := η) (μ := μ) (.tup h q) e
  | lst hm hn h q => exact dp_of (.lst hm hn h q) e
  | scr h q => exact dp_of (η := η) (μ := μ) (.scr h q) e
  | key h => simp [purS, pur] at e
  | ptup h h2 q => simp [purS, pur] at e
mutual
theorem dp_E : ∀ {v : V} {p : PyData}, Dp K H v p → DpE K H v p
  | _, _, .non => .non
  | _, _, .bl b => .bl b
  | _, _, .int b => .int b
  | _, _, .str b => .str b
  | _, _, .lst h q => .lst h (dps_E q)
  | _, _, .tup h q => .tup h (dps_E q)
theorem dps_E : ∀ {vs : List V} {ps : List PyData}, DpAll K H vs ps → DpEs K H vs ps
  | _, _, .nil => .nil
  | _, _, .cons h q => .cons (dp_E h) (dps_E q)
end
mutual
theorem dpE_of (r : Rp K η μ S H) : ∀ {d : D} {v : V} {p : PyData}, RV K H η μ d v → purE S d = some p → DpE K H v p
  | _, _, _, .non, e => by simp [purE] at e; subst e; exact .non
  | _, _, _, .bl b, e => by simp [purE] at e; subst e; exact .bl b
  | _, _, _, .int b, e => by simp [purE] at e; subst e; exact .int b
  | _, _, _, .str b, e => by simp [purE] at e; subst e; exact .str b
  | _, _, _, .tup h q, e => by
    simp only [purE, Option.map_eq_some_iff] at e
    obtain ⟨ps, e1, rfl⟩ := e
    exact .tup h (dpsE_of r q e1)
  | _, _, _, .lst hm hn h q, e => by
    simp only [purE, Option.map_eq_some_iff] at e
    obtain ⟨ps, e1, rfl⟩ := e
    exact .lst (.inl (.inl h)) (dpsE_of r q e1)
  | _, _, _, .scr _ _, e => by simp [purE] at e
  | _, _, _, .ptup _ _ _, e => by simp [purE] at e
  | .ref n, .ref a, p, .ref h, e => by
    unfold purE at e
    split at e
    · rename_i hc
      cases e
      obtain ⟨b, hb, vs, h1, h2⟩ := r.cell n _ hc
      rw [h] at hb; cases hb
      cases h2
      exact .dct (.inl h1)
    · rename_i xs hc
      simp only [Option.map_eq_some_iff] at e
      obtain ⟨ps, e1, rfl⟩ := e
      obtain ⟨b, vs, e3, e4, q⟩ := lst_of r (.ref h) (show lstOf S (.ref n) = some xs by simp only [lstOf, hc])
      cases e3
      exact .lst (.inl (.inl e4)) (dps_E (dps_of q e1))
    · cases e
theorem dpsE_of (r : Rp K η μ S H) : ∀ {ds : List D} {vs : List V} {ps : List PyData}, RVs K H η μ ds vs → pursE S ds = some ps → DpEs K H vs ps
  | _, _, _, .nil, e => by simp [pursE] at e; subst e; exact .nil
  | _, _, _, .cons h q, e => by
    simp only [pursE, Option.bind_eq_some_iff, Option.map_eq_some_iff] at e
    obtain ⟨p, e1, ps, e2, rfl⟩ := e
    exact .cons (dpE_of r h e1) (dpsE_of r q e2)
end
theorem flat_of {d : D} {v : V} (rv : RV K H η μ d v) (f : flatD d = true) : v = toV d ∧ flatV v = true := by
  cases rv <;> first | exact ⟨rfl, rfl⟩ | simp [flatD] at f
theorem flats_of : ∀ {ds : List D} {vs : List V}, RVs K H η μ ds vs → ds.all flatD = true → vs = ds.map toV ∧ vs.all flatV = true
  | _, _, .nil, _ => ⟨rfl, rfl⟩
  | _, _, .cons h q, e => by
    simp only [List.all_cons, Bool.and_eq_true] at e
    obtain ⟨a, b⟩ := flat_of h e.1
    obtain ⟨c, d⟩ := flats_of q e.2
    refine ⟨by rw [List.map_cons, ← a, ← c], ?_⟩
    simp only [List.all_cons, b, d, Bool.and_self]
theorem ints_of : ∀ {ds : List D} {vs : List V} {is : List Int}, RVs K H η μ ds vs → ds.mapM inOf = some is → vs = is.map V.int
  | _, _, _, .nil, e => by simp at e; subst e; rfl
  | _, _, _, .cons h q, e => by
    simp only [List.mapM_cons, Option.bind_eq_bind, Option.bind_eq_some_iff] at e
    obtain ⟨i, e1, is, e2, e3⟩ := e
    cases e3
    cases h <;> simp [inOf] at e1
    subst e1
    rw [ints_of q e2]; rfl
theorem bls_of : ∀ {ds : List D} {vs : List V} {is : List Bool}, RVs K H η μ ds vs → ds.mapM blOf = some is → vs = is.map V.bl
  | _, _, _, .nil, e => by simp at e; subst e; rfl
  | _, _, _, .cons h q, e => by
    simp only [List.mapM_cons, Option.bind_eq_bind, Option.bind_eq_some_iff] at e
    obtain ⟨i, e1, is, e2, e3⟩ := e
    cases e3
    cases h <;> simp [blOf] at e1
    subst e1
    rw [bls_of q e2]; rfl
noncomputable def CmpR (X : Cx) (op : CmpOp) (r : R2) : Prop := OpR X (compareOp op) r ∧ ∀ {η μ S H x y v u QB} {Q : VK}, Rp X.K η μ S H → RV X.K H η μ x v → RV X.K H η μ y u → cmpD op S x y QB → (∀ b, QB b → Q (.bl b) H) → r v u H Q
theorem dct_of (r : Rp K η μ S H) {n : Nat} {v : V} {kvs : List (List L2.Key × D)} (rv : RV K H η μ (.ref n) v) (e : dctOf S n = some kvs) : ∃ a vs, v = .ref a ∧ Rd H a (.dT vs) ∧ RKs K H η μ kvs vs := by
  cases rv with
  | @ref n a h =>
    unfold dctOf at e
    split at e
    · rename_i k hc
      cases e
      obtain ⟨b, hb, vs, h1, h2⟩ := r.cell n _ hc
      rw [h] at hb; cases hb
      exact ⟨a, vs, rfl, .inl h1, h2⟩
    · rename_i k hc
      cases e
      obtain ⟨b, hb, ob, vs, h1, h2⟩ := r.cell n _ hc
      rw [h] at hb; cases hb
      exact ⟨a, vs, rfl, .inr ⟨ob, h1⟩, h2⟩
    · cases e
theorem relO_some {o : Option V} {α : Type} {w : Option α} {f : α → Value} (h : RelO o (w.map f)) : w.isSome = o.isSome := by
  cases o <;> cases w <;> first | rfl | exact h.elim | cases h
noncomputable def rOrdD (K : PySem.W.Frag) (f : PyData → PyData → Bool) : R2 := fun x y H Q => ∃ p q, Dp K H x p ∧ Dp K H y q ∧ PySem.W.alike p q = true ∧ p ≠ .none ∧ p.depth ≤ 10 ∧ Q (.bl (f p q)) H
theorem op_ltD (hu : X.A.units + 64 < cLine) : OpR X (compareOp .Lt) (rOrdD X.K fun p q => PySem.W.dataLt p q) := by
  intro pins s σ H x y v u Q I rx ry h
  obtain ⟨p, q, hp, hq, al, hn, hd, h⟩ := h
  obtain ⟨as, r1⟩ := Dp.reads I p x v hp rx
  obtain ⟨bs, r2⟩ := Dp.reads I q y u hq ry
  exact PySem.W.lt_data r1 r2 al hn (by omega) ⟨.bl _, H, I, rfl, h⟩
theorem op_leD (hu : X.A.units + 64 < cLine) : OpR X (compareOp .LtE) (rOrdD X.K fun p q => !PySem.W.dataLt q p) := by
  intro pins s σ H x y v u Q I rx ry h
  obtain ⟨p, q, hp, hq, al, hn, hd, h⟩ := h
  obtain ⟨as, r1⟩ := Dp.reads I p x v hp rx
  obtain ⟨bs, r2⟩ := Dp.reads I q y u hq ry
  exact PySem.W.le_data r1 r2 al hn (by omega) ⟨.bl _, H, I, rfl, h⟩
theorem op_gtD (hu : X.A.units + 64 < cLine) : OpR X (compareOp .Gt) (rOrdD X.K fun p q => PySem.W.dataLt q p) := by
  intro pins s σ H x y v u Q I rx ry h
  obtain ⟨p, q, hp, hq, al, hn, hd, h⟩ := h
  obtain ⟨as, r1⟩ := Dp.reads I p x v hp rx
  obtain ⟨bs, r2⟩ := Dp.reads I q y u hq ry
  exact PySem.W.gt_data r1 r2 al hn (by omega) ⟨.bl _, H, I, rfl, h⟩
theorem op_geD (hu : X.A.units + 64 < cLine) : OpR X (compareOp .GtE) (rOrdD X.K fun p q => !PySem.W.dataLt p q) := by
  intro pins s σ H x y v u Q I rx ry h
  obtain ⟨p, q, hp, hq, al, hn, hd, h⟩ := h
  obtain ⟨as, r1⟩ := Dp.reads I p x v hp rx
  obtain ⟨bs, r2⟩ := Dp.reads I q y u hq ry
  exact PySem.W.ge_data r1 r2 al hn (by omega) ⟨.bl _, H, I, rfl, h⟩
theorem ord_of (r : Rp K η μ S H) {g : Int → Int → Bool} {f : PyData → PyData → Bool} {x y : D} {v u : V} {QB : Bool → Prop} {Q : VK} (rx : RV K H η μ x v) (ry : RV K H η μ y u) (h : ordD g f S x y QB) (hQ : ∀ b, QB b → Q (.bl b) H) : L2.rI0 (fun i j => .bl (g i j)) v u H Q ∨ rOrdD K f v u H Q := by
  unfold ordD at h
  split at h
  · cases rx; cases ry; exact .inl ⟨_, _, rfl, rfl, hQ _ h⟩
  · obtain ⟨p, q, e1, e2, al, hn, hd, h⟩ := h
    exact .inr ⟨p, q, dpS_of r rx e1, dpS_of r ry e2, al, hn, hd, hQ _ h⟩
/-- in of a dict whose keys are tuples -/
noncomputable def rInDT (K : PySem.W.Frag) (neg : Bool) : R2 := fun x y H Q => ∃ (a b : Addr) (kvs : List (List L2.Key × V)) (ks : List L2.Key), x = .ref b ∧ y = .ref a ∧ Rd H a (.dT kvs) ∧ SqT K H b (ks.map kV) ∧ Q (.bl (if neg then !(valV kvs ks).isSome else (valV kvs ks).isSome)) H
theorem op_inDT (hu : X.A.units + 64 < cLine) : OpR X (compareOp .In) (rInDT X.K false) := by
  intro pins s σ H x y v u Q I rx ry h
  obtain ⟨a, b, kvs, ks, rfl, rfl, e, hb, q⟩ := h
  cases rx; cases ry
  obtain ⟨z, hd, xs, rel, dd⟩ := dt_rd I.hok e
  have hv := rel.val ks
  have e2 : (atKey xs ks).isSome = (valV kvs ks).isSome := relO_some hv
  refine wpAny_in_heap (tupleKind_room_in1 (by omega)) (key_ofS I hb) hd dd ⟨.bl _, H, I.tok _, rfl, ?_⟩
  rw [e2]; exact q
theorem op_notInDT (hu : X.A.units + 64 < cLine) : OpR X (compareOp .NotIn) (rInDT X.K true) := by
  intro pins s σ H x y v u Q I rx ry h
  obtain ⟨a, b, kvs, ks, rfl, rfl, e, hb, q⟩ := h
  cases rx; cases ry
  obtain ⟨z, hd, xs, rel, dd⟩ := dt_rd I.hok e
  have hv := rel.val ks
  have e2 : (atKey xs ks).isSome = (valV kvs ks).isSome := relO_some hv
  refine wpAny_notIn_heap (tupleKind_room_in1 (by omega)) (key_ofS I hb) hd dd ⟨.bl _, H, I.tok _, rfl, ?_⟩
  rw [e2]; exact q
theorem val_some {kvs : List (List L2.Key × D)} {vs : List (List L2.Key × V)} (q : RKs K H η μ kvs vs) (ks : List L2.Key) : (valD kvs ks).isSome = (valV vs ks).isSome := by
  have h := q.val ks
  cases e : valD kvs ks with
  | none => rw [h.2 e]; rfl
  | some d => obtain ⟨v, ev, _⟩ := h.1 d e; rw [ev]; rfl
theorem in_dct (r : Rp K η μ S H) {neg : Bool} {x y : D} {v u : V} {QB : Bool → Prop} {Q : VK} (ry : RV K H η μ y u) {n : Nat} {kvs : List (List L2.Key × D)} {ks : List L2.Key} {b : Addr} (hv : v = .ref b) (hb : SqT K H b (ks.map kV)) (e : y = .ref n) (ed : dctOf S n = some kvs) (q : (fun b => QB (if neg then !b else b)) (valD kvs ks).isSome) (hQ : ∀ b, QB b → Q (.bl b) H) : rInDT K neg v u H Q := by
  subst e hv
  obtain ⟨a, vs, rfl, ha, qk⟩ := dct_of r ry ed
  exact ⟨a, b, vs, ks, rfl, rfl, ha, hb, hQ _ (by rw [← val_some qk]; exact q)⟩
theorem dec_int (i j : Int) : decide (V.int i = V.int j) = decide (i = j) := by by_cases h : i = j <;> simp [h]
theorem dec_bl (i j : Bool) : decide (V.bl i = V.bl j) = decide (i = j) := by by_cases h : i = j <;> simp [h]
theorem dec_str (i j : Str) : decide (V.str i = V.str j) = decide (i = j) := by by_cases h : i = j <;> simp [h]
theorem eq_of_data (r : Rp K η μ S H) {x y : D} {v u : V} {QB : Bool → Prop} {Q : VK} (rx : RV K H η μ x v) (ry : RV K H η μ y u) (h : eqD S x y QB) (hQ : ∀ b, QB b → Q (.bl b) H) :
    rEq v u H Q ∨ rEqD K v u H Q := by
  simp only [eqD] at h
  split at h
  · cases rx; cases ry; exact .inl ⟨rfl, hQ _ (by rw [dec_int]; exact h)⟩
  · cases rx; cases ry; exact .inl ⟨rfl, hQ _ (by rw [dec_bl]; exact h)⟩
  · cases rx; cases ry; exact .inl ⟨rfl, hQ _ (by rw [dec_str]; exact h)⟩
  · obtain ⟨p, q, e1, e2, s1, s2, h⟩ := h
    exact .inr ⟨p, q, dpS_of r rx e1, dpS_of r ry e2, s1, s2, hQ _ h⟩
theorem ne_of_data (r : Rp K η μ S H) {x y : D} {v u : V} {QB : Bool → Prop} {Q : VK} (rx : RV K H η μ x v) (ry : RV K H η μ y u) (h : eqD S x y fun b => QB (!b)) (hQ : ∀ b, QB b → Q (.bl b) H) :
    rNe v u H Q ∨ rNeD K v u H Q := by
  simp only [eqD] at h
  split at h
  · cases rx; cases ry; exact .inl ⟨rfl, hQ _ (by rw [dec_int]; exact h)⟩
  · cases rx; cases ry; exact .inl ⟨rfl, hQ _ (by rw [dec_bl]; exact h)⟩
  · cases rx; cases ry; exact .inl ⟨rfl, hQ _ (by rw [dec_str]; exact h)⟩
  · obtain ⟨p, q, e1, e2, s1, s2, h⟩ := h
    exact .inr ⟨p, q, dpS_of r rx e1, dpS_of r ry e2, s1, s2, hQ _ h⟩
theorem in_of (r : Rp K η μ S H) {neg : Bool} {x y : D} {v u : V} {QB : Bool → Prop} {Q : VK} (rx : RV K H η μ x v) (ry : RV K H η μ y u) (h : ∃ xs, seqOf S y = some xs ∧ flatD x = true ∧ xs.all flatD = true ∧ (fun b => QB (if neg then !b else b)) (inV (toV x) (xs.map toV))) (hQ : ∀ b, QB b → Q (.bl b) H) : rIn K neg v u H Q := by
  obtain ⟨xs, e, f, fs, q⟩ := h
  obtain ⟨a, vs, rfl, hq, qs⟩ := seq_of r ry e
  obtain ⟨e1, f1⟩ := flat_of rx f
  obtain ⟨e2, f2⟩ := flats_of qs fs
  exact ⟨a, vs, rfl, hq, f1, f2, hQ _ (by rw [e1, e2]; exact q)⟩
theorem in_of2 (r : Rp K η μ S H) {x y : D} {v u : V} {QB : Bool → Prop} {Q : VK} (rx : RV K H η μ x v) (ry : RV K H η μ y u) (h : inD S x y QB) (hQ : ∀ b, QB b → Q (.bl b) H) : rIn K false v u H Q ∨ rInTup K v u H Q ∨ rInLst K v u H Q ∨ rInDT K false v u H Q := by
  unfold inD at h
  split at h
  · obtain ⟨n, kvs, e, ed, q⟩ := h
    cases rx with
    | key hk => exact .inr (.inr (.inr (in_dct (x := y) (neg := false) r ry rfl (.inl (.inl hk)) e ed q hQ)))
  · rcases h with ⟨n, kvs, ks, e, ed, ek, q⟩ | ⟨p, ys, ps, e1, rfl, e2, s1, s2, d1, q⟩ | ⟨p, ps, e1, e2, s1, s2, d1, q⟩
    · cases rx with
      | tup hb qb =>
        have eb := keysOf_rv qb ek
        subst eb
        exact .inr (.inr (.inr (in_dct (x := y) (neg := false) r ry rfl hb e ed q hQ)))
    · exact .inr (.inl ⟨p, ps, dp_of rx e1, dp_of ry (by simp only [pur, e2]; rfl), s1, s2, d1, hQ _ q⟩)
    · exact .inr (.inr (.inl ⟨p, ps, dp_of rx e1, dpS_of r ry e2, s1, s2, d1, hQ _ q⟩))
  · exact .inl (in_of (neg := false) r rx ry h hQ)
theorem in_of3 (r : Rp K η μ S H) {x y : D} {v u : V} {QB : Bool → Prop} {Q : VK} (rx : RV K H η μ x v) (ry : RV K H η μ y u) (h : inD S x y fun b => QB (!b)) (hQ : ∀ b, QB b → Q (.bl b) H) : rIn K true v u H Q ∨ rNotInTup K v u H Q ∨ rNotInLst K v u H Q ∨ rInDT K true v u H Q := by
  unfold inD at h
  split at h
  · obtain ⟨n, kvs, e, ed, q⟩ := h
    cases rx with
    | key hk => exact .inr (.inr (.inr (in_dct (x := y) (neg := true) r ry rfl (.inl (.inl hk)) e ed q hQ)))
  · rcases h with ⟨n, kvs, ks, e, ed, ek, q⟩ | ⟨p, ys, ps, e1, rfl, e2, s1, s2, d1, q⟩ | ⟨p, ps, e1, e2, s1, s2, d1, q⟩
    · cases rx with
      | tup hb qb =>
        have eb := keysOf_rv qb ek
        subst eb
        exact .inr (.inr (.inr (in_dct (x := y) (neg := true) r ry rfl hb e ed q hQ)))
    · exact .inr (.inl ⟨p, ps, dp_of rx e1, dp_of ry (by simp only [pur, e2]; rfl), s1, s2, d1, hQ _ q⟩)
    · exact .inr (.inr (.inl ⟨p, ps, dp_of rx e1, dpS_of r ry e2, s1, s2, d1, hQ _ q⟩))
  · exact .inl (in_of (neg := true) r rx ry h hQ)
theorem non_iff {x : D} {v : V} (rx : RV K H η μ x v) : decide (v = .non) = isNon x := by
  cases rx <;> simp [isNon]
theorem cmpR (hu : X.A.units + 64 < cLine) : ∀ op, ∃ r, CmpR X op r
  | .Lt => ⟨_, op_lt.or (op_ltD hu), fun r rx ry h hQ => ord_of r rx ry h hQ⟩
  | .LtE => ⟨_, op_le.or (op_leD hu), fun r rx ry h hQ => ord_of r rx ry h hQ⟩
  | .Gt => ⟨_, op_gt.or (op_gtD hu), fun r rx ry h hQ => ord_of r rx ry h hQ⟩
  | .GtE => ⟨_, op_ge.or (op_geD hu), fun r rx ry h hQ => ord_of r rx ry h hQ⟩
  | .Eq => ⟨_, op_eq.or (op_eqD hu), fun r rx ry h hQ => eq_of_data r rx ry h hQ⟩
  | .NotEq => ⟨_, op_ne.or (op_neD hu), fun r rx ry h hQ => ne_of_data r rx ry h hQ⟩
  | .In => ⟨_, op_in_seq.or ((op_inTup hu).or ((op_inLst hu).or (op_inDT hu))), fun r rx ry h hQ => in_of2 r rx ry h hQ⟩
  | .NotIn => ⟨_, op_notIn_seq.or ((op_notInTup hu).or ((op_notInLst hu).or (op_notInDT hu))), fun r rx ry h hQ => in_of3 r rx ry h hQ⟩
  | .Is => ⟨_, op_isN.or op_isBl, fun {η μ S H x y v u QB Q} r rx ry h hQ => by
      simp only [cmpD, isD] at h
      split at h
      · cases ry; exact .inl ⟨rfl, hQ _ (by rw [non_iff rx]; exact h)⟩
      · obtain ⟨c, rfl, h⟩ := h
        cases ry; cases rx; exact .inr ⟨_, _, rfl, rfl, hQ _ h⟩
      · exact h.elim⟩
  | .IsNot => ⟨_, op_notN.or op_notBl, fun {η μ S H x y v u QB Q} r rx ry h hQ => by
      simp only [cmpD, isD] at h
      split at h
      · cases ry; exact .inl ⟨rfl, hQ _ (by rw [non_iff rx]; exact h)⟩
      · obtain ⟨c, rfl, h⟩ := h
        cases ry; cases rx; exact .inr ⟨_, _, rfl, rfl, hQ _ h⟩
      · exact h.elim⟩
theorem tru_of (r : Rp K η μ S H) {x : D} {v : V} {QB : Bool → Prop} (rx : RV K H η μ x v) (h : truD S x QB) : ∃ k, TruV K v H k ∧ QB k := by
  simp only [truD] at h
  split at h
  · cases rx; exact ⟨false, rfl, h⟩
  · cases rx; exact ⟨_, rfl, h⟩
  · cases rx; exact ⟨_, rfl, h⟩
  · cases rx; exact ⟨_, ⟨h.1, rfl⟩, h.2⟩
  · obtain ⟨xs, e, q⟩ := h
    obtain ⟨a, vs, rfl, hq, qs⟩ := seq_of r rx e
    have el : xs.isEmpty = vs.isEmpty := by
      cases qs <;> rfl
    rw [el] at q
    rcases hq with hq | hq
    · exact ⟨_, .inl ⟨vs, hq, rfl⟩, q⟩
    · exact ⟨_, .inr (.inl ⟨vs, hq, rfl⟩), q⟩
theorem atI_of {xs : List D} {vs : List V} {i : Int} {d : D} (q : RVs K H η μ xs vs) (e : atI xs i = some d) : ∃ v, atI vs i = some v ∧ RV K H η μ d v := by
  unfold atI at e ⊢
  rw [← q.length]
  cases h : ixN xs.length i with
  | none => rw [h] at e; cases e
  | some j =>
    rw [h] at e
    exact q.get e
theorem ix_of (r : Rp K η μ S H) {x y : D} {v u : V} {QD : D → Prop} {Q : VK} (rx : RV K H η μ x v) (ry : RV K H η μ y u) (h : ixD S x y QD) (hQ : ∀ d v, RV K H η μ d v → QD d → Q v H) : rIx K v u H Q ∨ rIxD K v u H Q := by
  simp only [ixD] at h
  split at h
  · split at h
    · obtain ⟨c, h1, h2, h3⟩ := h
      cases rx; cases ry
      exact .inl (.inr (.inr ⟨_, _, c, rfl, rfl, h1, h2, hQ _ _ (.str _) h3⟩))
    · obtain ⟨xs, d, h1, h2, h3⟩ := h
      cases ry
      obtain ⟨a, vs, rfl, hq, qs⟩ := seq_of r rx h1
      obtain ⟨w, e, rw'⟩ := atI_of qs h2
      rcases hq with hq | hq
      · exact .inl (.inl ⟨_, _, _, w, rfl, rfl, hq, e, hQ _ _ rw' h3⟩)
      · exact .inl (.inr (.inl ⟨_, _, _, w, rfl, rfl, hq, e, hQ _ _ rw' h3⟩))
  · obtain ⟨n, kvs, ks, d, rfl, h1, h2, h3, h4⟩ := h
    obtain ⟨a, vs, rfl, ha, qk⟩ := dct_of r rx h1
    cases ry with
    | tup hb qb =>
      have eb := keysOf_rv qb h2
      subst eb
      obtain ⟨w, hw, rw'⟩ := (qk.val ks).1 d h3
      exact .inr ⟨a, _, vs, ks, w, rfl, rfl, ha, hb, hw, hQ _ _ rw' h4⟩
  · obtain ⟨n, kvs, d, rfl, h1, h3, h4⟩ := h
    rename_i ks
    obtain ⟨a, vs, rfl, ha, qk⟩ := dct_of r rx h1
    cases ry with
    | key hb =>
      obtain ⟨w, hw, rw'⟩ := (qk.val ks).1 d h3
      exact .inr ⟨a, _, vs, ks, w, rfl, rfl, ha, .inl (.inl hb), hw, hQ _ _ rw' h4⟩
  · exact h.elim
end
end DL
namespace DL
open PySem PySem.Spec PyProof.Rows L2
/-- the def at f keeps sp, called from where no repr is under way -/
structure FnG (P : Program) (w : World) (K : PySem.W.Frag) (mg : Str → Option Value) (base : Heap) (k : Nat) (f : Addr) (fd : FuncData) (ps : List Str) (sp : List V → Hp → VK → Prop) : Prop where
  len : ∀ vs H Q, sp vs H Q → vs.length = ps.length
  run : ∀ (A : Around) (outer : List Env) (s : Shared) (H : Hp) (args : Args) (us : List Value) (vs : List V) (Q : VK), A.guards = some [] → Room k A → Env0 P w K mg base A outer s H →
    BindsTo s fd args (ps.zip us) → Vals vs us → sp vs H Q → codeAny (model P w) A (.call (.ref f) args) (CR L2.CX0 outer P w H s Q L2.E0) s
section
variable {P : Program} {w : World} {K : PySem.W.Frag} {mg : Str → Option Value} {base : Heap} {k j : Nat} {f : Addr} {fd : FuncData} {ps : List Str} {sp sp' : List V → Hp → VK → Prop}
theorem FnG.mono (F : FnG P w K mg base j f fd ps sp) (h : j ≤ k) : FnG P w K mg base k f fd ps sp :=
  ⟨F.len, fun A o s H args us vs Q hg hr => F.run A o s H args us vs Q hg (hr.mono h)⟩
theorem FnG.imp (F : FnG P w K mg base k f fd ps sp) (h : ∀ vs H Q, sp' vs H Q → sp vs H Q) : FnG P w K mg base k f fd ps sp' :=
  ⟨fun vs H Q q => F.len vs H Q (h _ _ _ q), fun A o s H args us vs Q hg hr he hb hv hs => F.run A o s H args us vs Q hg hr he hb hv (h _ _ _ hs)⟩
end
/-- the context of a def's body -/
noncomputable abbrev cxG (P : Program) (w : World) (K : PySem.W.Frag) (mg : Str → Option Value) (base : Heap) (N : List Str) (qual : Str) (st : Stmt) (f : Addr) (cdv : Value) (A : Around) (outer : List Env) (s : Shared) (H : Hp) : Cx :=
  (cxOf L2.CX0 P w K mg base N qual (L2.defScope st) f cdv A outer s H L2.E0).nox
theorem fnG_of {P : Program} {w : World} {K : PySem.W.Frag} {mg : Str → Option Value} {base : Heap} {x qual : Str} {st : Stmt} {f : Addr} {fd : FuncData} {N ps : List Str} {k : Nat} {sp : List V → Hp → VK → Prop}
    (F : L2.Fun K x qual st f fd) (Sc : FnScope N ps (L2.defScope st)) (len : ∀ vs H Q, sp vs H Q → vs.length = ps.length)
    (body : ∀ (cdv : Value) (A : Around) (outer : List Env) (s : Shared) (H : Hp) (vs : List V) (Q : VK), (∃ oc od osl fd', K.lookup f = some ⟨oc, od, .func fd', osl⟩ ∧ fd'.code = cdv) → A.guards = some [] → Room k (A.deeper (envOfC qual (L2.defScope st) s.heap.objs.size f cdv)) → sp vs H Q →
      ∃ t, PSs (cxG P w K mg base N qual st f cdv A outer s H) (L2.defBody st) t ∧ t { nx := fun _ H' => Q .non H', rt := Q } (start N vs) H) :
    FnG P w K mg base (k + 1) f fd ps sp := by
  obtain ⟨oc, od, kV, doc, pm, an, cdv, ct, osl, efd, lk, hcd⟩ := F.ex
  subst efd
  constructor
  · exact len
  intro A outer s H args us vs Q hg room e0 hbt rvs hq
  have hlen := len vs H Q hq
  have keepB := fun b o e => (e0.bs b o e).1
  have kin : K.In s.heap := e0.mod.kin.keeps keepB
  have noLim : s.heap.NoLimit := e0.mod.nolimit.keeps keepB
  refine codeAny_call_function room.depth (kin _ _ lk) rfl Sc.co Sc.gen rfl (PySem.W.codeRec_of kin hcd) (hbt _ _ _ _ ?_)
  refine wpAny_newFunctionEnv_cells Sc.kind (fun y hy => ?kinds) fun env he s1 new => ?rest
  case kinds =>
    obtain ⟨nm, val⟩ := y
    exact (Sc.par nm (List.of_mem_zip hy).1).imp id fun q => ⟨q, PySem.W.cellsFrom_some _ _ _ (.inl q)⟩
  case rest =>
    subst he
    obtain ⟨t, der, ans⟩ := body cdv A outer s H vs Q ⟨_, _, _, _, lk, rfl⟩ hg (room.deeper _) hq
    have start0 := inv_start (CX := L2.CX0) (E := L2.E0) Sc room.hd e0 hlen rvs new
    refine ⟨noLim.keeps new.toInCall.keep, codeAny_func ?_⟩
    refine wpAny_mono ((PSs.nox der).run [] s1 (start N vs) H _ start0 ans) (fun fl s' out => ?_) fun e s' out => out
    match fl, out with
    | .ret u, ⟨v, σ', H', J, rv, q⟩ => exact ⟨v, H', J.os, J.bare, J.base, J.hok, rv, q⟩
    | .next, ⟨σ', H', J, q⟩ => exact ⟨.non, H', J.os, J.bare, J.base, J.hok, rfl, q⟩
    | .brk, ⟨_, _, _, q⟩ => exact q.elim
    | .cont, ⟨_, _, _, q⟩ => exact q.elim
section
variable {X : Cx} {k : Nat} {f : Addr} {fd : FuncData} {ps ks : List Str} {sp : List V → Hp → VK → Prop} {x : Str} {p pos : Pos} {e : Expr} {es : List Expr} {kws : List Keyword} {t tk : TA} {g : List Value → List Value → List Value} {gV : List V → List V → List V}
theorem runG {pins : List (Addr × Obj)} {σ : L2.St} {H : Hp} {s : Shared} {Q : VK} {us ws : List Value} {vs zs : List V} (F : FnG X.prog X.w X.K X.mg X.base k f fd ps sp) (hr : Room k X.A) (hG : X.A.guards = some []) (hb : KBinds X.K fd ps ks g gV)
    (I : Inv X pins σ H s) (r : Vals vs us) (rz : Vals zs ws) (h : sp (gV vs zs) H Q) : wpAny (model X.prog X.w) X.A (call (.ref f) us (ks.zip ws)) (EP X pins σ Q) X.xe s := by
  have both := hb.rel r rz
  refine wpAny_call (codeAny_mono (F.run X.A X.stack s H ⟨us, ks.zip ws⟩ _ _ Q hG hr I.env0 (hb.to s us ws I.kIn ?_) both h) fun res s' hq => ?_)
  · exact both.length.symm.trans (F.len _ _ _ h)
  · match res, hq with
    | .ok (.ret u), hq => exact I.after hq
    | .ok .next, hq => exact hq.elim
    | .ok .brk, hq => exact hq.elim
    | .ok .cont, hq => exact hq.elim
    | .error er, hq => exact hq.elim
theorem pe_callG (F : FnG X.prog X.w X.K X.mg X.base k f fd ps sp) (hr : Room k X.A) (hG : X.A.guards = some []) (hg : Gl X x) (hm : X.mg x = some (.ref f)) (hk : PySem.W.keepIn X.K (.ref f) = true) (hb : KBinds X.K fd ps ks g gV)
    (ha : PA X (e :: es) t) (hkw : PK X kws tk) (hall : (backToKw pos (keywordEach kws X.env)).all (·.1.isSome) = true) (hks : (backToKw pos (keywordEach kws X.env)).filterMap (·.1) = ks)
    (hdb : (x == ("__debug__" : Str)) = false) (he : starEach (e :: es) X.env = (false, eval e X.env) :: starEach es X.env)
    (hpl : ((backTo pos (starEach (e :: es) X.env)).any (·.1) || (backToKw pos (keywordEach kws X.env)).any (·.1.isNone)) = false) :
    PE X (.Call (.Name x p) (e :: es) kws pos) (fun σ H Q => t σ H fun vs H1 => tk σ H1 fun zs H2 => sp (gV vs zs) H2 Q) := by
  constructor
  intro pins s σ H Q I h
  refine wpAny_Call_Name_kw (ld_glob I hg hm ?_ hdb)
  refine PySem.W.callWith_KW (h₀ := X.base) I.ok.mod.kin hk hall (thn (ha.run pos pins s σ H _ I h) fun us s1 out1 => ?_) hpl he
  obtain ⟨vs, H1, I1, rel1, q1⟩ := out1
  refine thn (hkw.run pos pins s1 σ H1 _ I1 q1) fun ws s2 out2 => ?_
  obtain ⟨zs, H2, I2, rel2, q2⟩ := out2
  rw [hks]
  exact ⟨I2.kIn, runG F hr hG hb I2 rel1 rel2 q2⟩
theorem pe_callG0 (F : FnG X.prog X.w X.K X.mg X.base k f fd ps sp) (hr : Room k X.A) (hG : X.A.guards = some []) (hg : Gl X x) (hm : X.mg x = some (.ref f)) (hk : PySem.W.keepIn X.K (.ref f) = true) (hb : KBinds X.K fd ps ks g gV)
    (hkw : PK X kws tk) (hall : (backToKw pos (keywordEach kws X.env)).all (·.1.isSome) = true) (hks : (backToKw pos (keywordEach kws X.env)).filterMap (·.1) = ks)
    (hdb : (x == ("__debug__" : Str)) = false) (hpl : ((backTo pos (starEach [] X.env)).any (·.1) || (backToKw pos (keywordEach kws X.env)).any (·.1.isNone)) = false) :
    PE X (.Call (.Name x p) [] kws pos) (fun σ H Q => tk σ H fun zs H2 => sp (gV [] zs) H2 Q) := by
  constructor
  intro pins s σ H Q I h
  refine wpAny_Call_Name_kw (ld_glob I hg hm ?_ hdb)
  refine PySem.W.callWith_KW0 (h₀ := X.base) I.ok.mod.kin hk hall (thn (hkw.run pos pins s σ H _ I h) fun ws s2 out2 => ?_) hpl
  obtain ⟨zs, H2, I2, rel2, q2⟩ := out2
  rw [hks]
  exact ⟨I2.kIn, runG (us := []) F hr hG hb I2 .nil rel2 q2⟩
/-- repr of data -/
theorem call_reprD (hG : X.A.guards = some []) (hu : X.A.units + 64 < cLine) : CallR X (.builtin "repr") (fun xs H Q => ∃ v d, xs = [v] ∧ Dp X.K H v d ∧ RepOk d ∧ Q (.str d.shown) H) := by
  intro pins s σ H xs us Q I r h
  obtain ⟨v, d, rfl, hd, ok, q⟩ := h
  obtain ⟨u, rfl, ru⟩ := vals1 r
  obtain ⟨as, rd⟩ := Dp.reads I d v u hd ru
  have dep := ok.dp
  cases hd with
  | int i => obtain ⟨t, rfl⟩ := ru; exact PySem.P.repr_of_int (by have := ok.sh; simpa [PyData.showable] using this) ⟨.str _, H, I.tok _, ⟨_, rfl⟩, q⟩
  | lst h1 h2 =>
    cases ru
    refine repr_of_reads' rd ok.sh (fun z => absurd (ok.nd.symm.trans z) (by decide)) hG (by omega) (fun _ _ e => e) (fun h' t tk hk => ?_) ok.sz
    exact ⟨.str _, H, I.kept hk, ⟨_, rfl⟩, q⟩
  | tup h1 h2 =>
    cases ru
    refine repr_of_reads' rd ok.sh (fun z => absurd (ok.nd.symm.trans z) (by decide)) hG (by omega) (fun _ _ e => e) (fun h' t tk hk => ?_) ok.sz
    exact ⟨.str _, H, I.kept hk, ⟨_, rfl⟩, q⟩
  | non => cases ru; exact PySem.P.repr_of_none ⟨.str _, H, I.tok _, ⟨_, rfl⟩, q⟩
  | bl b => cases ru; exact PySem.P.repr_of_bool ⟨.str _, H, I.tok _, ⟨_, rfl⟩, (by cases b <;> exact q)⟩
  | str y => obtain ⟨t, rfl⟩ := ru; exact PySem.P.repr_of_str ⟨.str _, H, I.tok _, ⟨_, rfl⟩, q⟩ ok.sz
end
/-- the def at f keeps sp, or lets out an exception that sp knows -/
structure FnX (P : Program) (w : World) (K : PySem.W.Frag) (mg : Str → Option Value) (base : Heap) (k : Nat) (f : Addr) (fd : FuncData) (ps : List Str) (sp : List V → Hp → VK → XK → Prop) : Prop where
  len : ∀ vs H Q E, sp vs H Q E → vs.length = ps.length
  run : ∀ (A : Around) (outer : List Env) (s : Shared) (H : Hp) (args : Args) (us : List Value) (vs : List V) (Q : VK) (E : XK), A.guards = some [] → Room k A → Env0 P w K mg base A outer s H →
    BindsTo s fd args (ps.zip us) → Vals vs us → sp vs H Q E → codeAny (model P w) A (.call (.ref f) args) (CR (L2.CX P w) outer P w H s Q E) s
section
variable {P : Program} {w : World} {K : PySem.W.Frag} {mg : Str → Option Value} {base : Heap} {k j : Nat} {f : Addr} {fd : FuncData} {ps : List Str} {sp : List V → Hp → VK → XK → Prop} {spG : List V → Hp → VK → Prop}
theorem FnX.mono (F : FnX P w K mg base j f fd ps sp) (h : j ≤ k) : FnX P w K mg base k f fd ps sp :=
  ⟨F.len, fun A o s H args us vs Q E hg hr => F.run A o s H args us vs Q E hg (hr.mono h)⟩
theorem FnX.toG (F : FnX P w K mg base k f fd ps sp) (h : ∀ vs H Q, spG vs H Q → sp vs H Q (fun _ _ _ => False)) : FnG P w K mg base k f fd ps spG := by
  refine ⟨fun vs H Q q => F.len _ _ _ _ (h _ _ _ q), fun A o s H args us vs Q hg hr he hb hv hs => ?_⟩
  refine codeAny_mono (F.run A o s H args us vs Q _ hg hr he hb hv (h _ _ _ hs)) fun res s' hq => ?_
  match res, hq with
  | .ok (.ret u), hq => exact hq
  | .ok .next, hq => exact hq.elim
  | .ok .brk, hq => exact hq.elim
  | .ok .cont, hq => exact hq.elim
  | .error er, hq =>
    obtain ⟨_, _, _, _, _, _, _, _, _, _, _, _, z⟩ := hq
    exact z.elim
end
/-- the context of the body of a def that may raise -/
noncomputable abbrev cxX (P : Program) (w : World) (K : PySem.W.Frag) (mg : Str → Option Value) (base : Heap) (N : List Str) (qual : Str) (st : Stmt) (f : Addr) (cdv : Value) (A : Around) (outer : List Env) (s : Shared) (H : Hp) (E : XK) : Cx :=
  cxOf (L2.CX P w) P w K mg base N qual (L2.defScope st) f cdv A outer s H E
theorem fnX_of {P : Program} {w : World} {K : PySem.W.Frag} {mg : Str → Option Value} {base : Heap} {x qual : Str} {st : Stmt} {f : Addr} {fd : FuncData} {N ps : List Str} {k : Nat} {sp : List V → Hp → VK → XK → Prop}
    (F : L2.Fun K x qual st f fd) (Sc : FnScope N ps (L2.defScope st)) (len : ∀ vs H Q E, sp vs H Q E → vs.length = ps.length)
    (body : ∀ (cdv : Value) (A : Around) (outer : List Env) (s : Shared) (H : Hp) (vs : List V) (Q : VK) (E : XK), (∃ oc od osl fd', K.lookup f = some ⟨oc, od, .func fd', osl⟩ ∧ fd'.code = cdv) → A.guards = some [] → Room k (A.deeper (envOfC qual (L2.defScope st) s.heap.objs.size f cdv)) → sp vs H Q E →
      ∃ t, PSs (cxX P w K mg base N qual st f cdv A outer s H E) (L2.defBody st) t ∧ t { nx := fun _ H' => Q .non H', rt := Q } (start N vs) H) :
    FnX P w K mg base (k + 1) f fd ps sp := by
  obtain ⟨oc, od, kV, doc, pm, an, cdv, ct, osl, efd, lk, hcd⟩ := F.ex
  subst efd
  constructor
  · exact len
  intro A outer s H args us vs Q E hg room e0 hbt rvs hq
  have hlen := len vs H Q E hq
  have keepB := fun b o e => (e0.bs b o e).1
  have kin : K.In s.heap := e0.mod.kin.keeps keepB
  have noLim : s.heap.NoLimit := e0.mod.nolimit.keeps keepB
  refine codeAny_call_function room.depth (kin _ _ lk) rfl Sc.co Sc.gen rfl (PySem.W.codeRec_of kin hcd) (hbt _ _ _ _ ?_)
  refine wpAny_newFunctionEnv_cells Sc.kind (fun y hy => ?kinds) fun env he s1 new => ?rest
  case kinds =>
    obtain ⟨nm, val⟩ := y
    exact (Sc.par nm (List.of_mem_zip hy).1).imp id fun q => ⟨q, PySem.W.cellsFrom_some _ _ _ (.inl q)⟩
  case rest =>
    subst he
    obtain ⟨t, der, ans⟩ := body cdv A outer s H vs Q E ⟨_, _, _, _, lk, rfl⟩ hg (room.deeper _) hq
    have start0 := inv_start (CX := L2.CX P w) (E := E) Sc room.hd e0 hlen rvs new
    refine ⟨noLim.keeps new.toInCall.keep, codeAny_func ?_⟩
    refine wpAny_mono (der.run [] s1 (start N vs) H _ start0 ans) (fun fl s' out => ?_) fun e s' out => out
    match fl, out with
    | .ret u, ⟨v, σ', H', J, rv, q⟩ => exact ⟨v, H', J.os, J.bare, J.base, J.hok, rv, q⟩
    | .next, ⟨σ', H', J, q⟩ => exact ⟨.non, H', J.os, J.bare, J.base, J.hok, rfl, q⟩
    | .brk, ⟨_, _, _, q⟩ => exact q.elim
    | .cont, ⟨_, _, _, q⟩ => exact q.elim
section
variable {X : Cx} {W : WX} {k : Nat} {f : Addr} {fd : FuncData} {ps : List Str} {sp : List V → Hp → VK → XK → Prop} {x : Str} {p pos : Pos} {e : Expr} {es : List Expr} {t : TA}
theorem runX {pins : List (Addr × Obj)} {σ : L2.St} {H : Hp} {s : Shared} {Q : VK} {us : List Value} {vs : List V} (tk : Takes X W) (F : FnX X.prog X.w X.K X.mg X.base k f fd ps sp) (hr : Room k X.A) (hG : X.A.guards = some []) (hb : KBinds X.K fd ps [] (fun us _ => us) (fun vs _ => vs))
    (I : Inv X pins σ H s) (r : Vals vs us) (h : sp vs H Q (fun cls d H' => W cls d σ H')) : wpAny (model X.prog X.w) X.A (call (.ref f) us []) (EP X pins σ Q) X.xe s := by
  refine wpAny_call (codeAny_mono (F.run X.A X.stack s H ⟨us, []⟩ us vs Q _ hG hr I.env0 (hb.to s us [] I.kIn ?_) r h) fun res s' hq => ?_)
  · exact r.length.symm.trans (F.len _ _ _ _ h)
  · match res, hq with
    | .ok (.ret u), hq => exact I.after hq
    | .ok .next, hq => exact hq.elim
    | .ok .brk, hq => exact hq.elim
    | .ok .cont, hq => exact hq.elim
    | .error er, hq => exact tk _ _ (XE.of_call I (fun _ _ _ z => z) hq)
theorem pe_callX (tk : Takes X W) (F : FnX X.prog X.w X.K X.mg X.base k f fd ps sp) (hr : Room k X.A) (hG : X.A.guards = some []) (hg : Gl X x) (hm : X.mg x = some (.ref f)) (hk : PySem.W.keepIn X.K (.ref f) = true) (hb : KBinds X.K fd ps [] (fun us _ => us) (fun vs _ => vs))
    (ha : PA X (e :: es) t) (hdb : (x == ("__debug__" : Str)) = false) (he : starEach (e :: es) X.env = (false, eval e X.env) :: starEach es X.env)
    (hpl : ((backTo pos (starEach (e :: es) X.env)).any (·.1) || (backToKw pos (keywordEach [] X.env)).any (·.1.isNone)) = false) :
    PE X (.Call (.Name x p) (e :: es) [] pos) (fun σ H Q => t σ H fun vs H1 => sp vs H1 Q (fun cls d H' => W cls d σ H')) := by
  constructor
  intro pins s σ H Q I h
  refine wpAny_Call_Name_kw (ld_glob I hg hm ?_ hdb)
  refine PySem.W.callWith_KW (h₀ := X.base) I.ok.mod.kin hk rfl (thn (ha.run pos pins s σ H _ I h) fun us s1 out1 => ?_) hpl he
  obtain ⟨vs, H1, I1, rel1, q1⟩ := out1
  refine thn (pk_nil.run pos pins s1 σ H1 (fun zs H2 => zs = [] ∧ H2 = H1) I1 ⟨rfl, rfl⟩) fun ws s2 out2 => ?_
  obtain ⟨zs, H2, I2, rel2, rfl, rfl⟩ := out2
  cases rel2
  exact ⟨I2.kIn, runX tk F hr hG hb I2 rel1 q1⟩
end
end DL
namespace DL
open PySem PySem.Spec PyProof.Rows L2
theorem make_guards {A : Around} {C : Addr} {us : List Value} {kw : List (Str × Value)} (h : A.guards = some []) : (A.under (.builtin "type.__call__" ⟨.ref C :: us, kw⟩)).guards = some [] := by
  first | exact h | simpa [Around.under, Code.weight, Code.isCreation, Code.isGuard, Code.isCaller, Code.frames, Code.isFrame, guardIds] using h
section
variable {X : Cx} {k : Nat} {f C : Addr} {fd : FuncData} {ps ks : List Str} {sp : List V → Hp → VK → Prop} {x m : Str} {p pos apos : Pos} {o e : Expr} {es : List Expr} {kws : List Keyword} {ta : TE} {t tk : TA} {g : List Value → List Value → List Value} {gV : List V → List V → List V}
/-- a new instance, then __init__ -/
theorem runMk {pins : List (Addr × Obj)} {σ : L2.St} {H : Hp} {s : Shared} {Q : VK} {us ws : List Value} {vs zs : List V} (M : Mk X.K C f) (F : FnG X.prog X.w X.K X.mg X.base k f fd ps sp) (hr : Room (k + 1) X.A) (hG : X.A.guards = some []) (hb : KBinds X.K fd ps ks g gV)
    (I : Inv X pins σ H s) (r : Vals vs us) (rz : Vals zs ws)
    (h : ∀ x dx, H x = none → H dx = none → dx ≠ x → sp (gV (.ref x :: vs) zs) (upd (upd H dx (.own x)) x (.ins C dx [])) (fun v H2 => v = .non ∧ Q (.ref x) H2)) :
    wpAny (model X.prog X.w) X.A (call (.ref C) us (ks.zip ws)) (EP X pins σ Q) X.xe s := by
  have hq := h (s.heap.objs.size + 1) s.heap.objs.size (I.hok.fresh (Nat.le_succ _)) (I.hok.fresh (Nat.le_refl _)) (Nat.ne_of_lt (Nat.lt_succ_self _))
  have J := Inv.made (C := C) I
  have both := hb.rel (vs := .ref (s.heap.objs.size + 1) :: vs) (us := .ref (s.heap.objs.size + 1) :: us) (.cons rfl r) rz
  refine wpAny_call (make_map (f := f) I.kIn M.makes M.init (beq_iff_eq.mp M.fn) (codeAny_mono (F.run _ X.stack _ _ ⟨Value.ref (s.heap.objs.size + 1) :: us, ks.zip ws⟩ _ _ _ (make_guards hG) (hr.make C us (ks.zip ws))
    (J.env0.make C us (ks.zip ws)) (hb.to _ (Value.ref (s.heap.objs.size + 1) :: us) ws J.kIn ?_) both hq) fun res s' out => ?_))
  · exact both.length.symm.trans (F.len _ _ _ hq)
  · match res, out with
    | .ok (.ret u), out =>
      obtain ⟨v, H', J', rv, ev, q3⟩ := J.after out
      subst ev
      exact ⟨rv, ⟨V.ref (s.heap.objs.size + 1), H', J', rfl, q3⟩⟩
    | .ok .next, out => exact out.elim
    | .ok .brk, out => exact out.elim
    | .ok .cont, out => exact out.elim
    | .error er, out => exact out.elim
noncomputable def tMkG (C : Addr) (sp : List V → Hp → VK → Prop) (gV : List V → List V → List V) (t tk : TA) : TE := fun σ H Q => t σ H fun vs H1 => tk σ H1 fun zs H2 => ∀ x dx, H2 x = none → H2 dx = none → dx ≠ x →
  sp (gV (.ref x :: vs) zs) (upd (upd H2 dx (.own x)) x (.ins C dx [])) (fun v H3 => v = .non ∧ Q (.ref x) H3)
theorem pe_makeG (M : Mk X.K C f) (F : FnG X.prog X.w X.K X.mg X.base k f fd ps sp) (hr : Room (k + 1) X.A) (hG : X.A.guards = some []) (hg : Gl X x) (hm : X.mg x = some (.ref C)) (hb : KBinds X.K fd ps ks g gV)
    (ha : PA X (e :: es) t) (hkw : PK X kws tk) (hall : (backToKw pos (keywordEach kws X.env)).all (·.1.isSome) = true) (hks : (backToKw pos (keywordEach kws X.env)).filterMap (·.1) = ks)
    (hdb : (x == ("__debug__" : Str)) = false) (he : starEach (e :: es) X.env = (false, eval e X.env) :: starEach es X.env)
    (hpl : ((backTo pos (starEach (e :: es) X.env)).any (·.1) || (backToKw pos (keywordEach kws X.env)).any (·.1.isNone)) = false) :
    PE X (.Call (.Name x p) (e :: es) kws pos) (tMkG C sp gV t tk) := by
  constructor
  intro pins s σ H Q I h
  refine wpAny_Call_Name_kw (ld_glob I hg hm ?_ hdb)
  refine PySem.W.callWith_KW (h₀ := X.base) I.ok.mod.kin M.kp hall (thn (ha.run pos pins s σ H _ I h) fun us s1 out1 => ?_) hpl he
  obtain ⟨vs, H1, I1, rel1, q1⟩ := out1
  refine thn (hkw.run pos pins s1 σ H1 _ I1 q1) fun ws s2 out2 => ?_
  obtain ⟨zs, H2, I2, rel2, q2⟩ := out2
  rw [hks]
  exact ⟨I2.kIn, runMk M F hr hG hb I2 rel1 rel2 q2⟩
theorem pe_makeG0 (M : Mk X.K C f) (F : FnG X.prog X.w X.K X.mg X.base k f fd ps sp) (hr : Room (k + 1) X.A) (hG : X.A.guards = some []) (hg : Gl X x) (hm : X.mg x = some (.ref C)) (hb : KBinds X.K fd ps ks g gV)
    (hkw : PK X kws tk) (hall : (backToKw pos (keywordEach kws X.env)).all (·.1.isSome) = true) (hks : (backToKw pos (keywordEach kws X.env)).filterMap (·.1) = ks)
    (hdb : (x == ("__debug__" : Str)) = false) (hpl : ((backTo pos (starEach [] X.env)).any (·.1) || (backToKw pos (keywordEach kws X.env)).any (·.1.isNone)) = false) :
    PE X (.Call (.Name x p) [] kws pos) (fun σ H Q => tk σ H fun zs H2 => ∀ x dx, H2 x = none → H2 dx = none → dx ≠ x → sp (gV [.ref x] zs) (upd (upd H2 dx (.own x)) x (.ins C dx [])) (fun v H3 => v = .non ∧ Q (.ref x) H3)) := by
  constructor
  intro pins s σ H Q I h
  refine wpAny_Call_Name_kw (ld_glob I hg hm ?_ hdb)
  refine PySem.W.callWith_KW0 (h₀ := X.base) I.ok.mod.kin M.kp hall (thn (hkw.run pos pins s σ H _ I h) fun ws s2 out2 => ?_) hpl
  obtain ⟨zs, H2, I2, rel2, q2⟩ := out2
  rw [hks]
  exact ⟨I2.kIn, runMk (us := []) M F hr hG hb I2 .nil rel2 q2⟩
end
section
variable {X : Cx} {W : WX} {k : Nat} {C f : Addr} {fd : FuncData} {ps : List Str} {sp : List V → Hp → VK → XK → Prop} {x m : Str} {p pos apos : Pos} {o e : Expr} {es : List Expr} {ta : TE} {t : TA}
theorem runMkX {pins : List (Addr × Obj)} {σ : L2.St} {H : Hp} {s : Shared} {Q : VK} {us : List Value} {vs : List V} (tk : Takes X W) (M : Mk X.K C f) (F : FnX X.prog X.w X.K X.mg X.base k f fd ps sp) (hr : Room (k + 1) X.A) (hG : X.A.guards = some []) (hb : KBinds X.K fd ps [] (fun us _ => us) (fun vs _ => vs))
    (I : Inv X pins σ H s) (r : Vals vs us)
    (h : ∀ x dx, H x = none → H dx = none → dx ≠ x → sp (.ref x :: vs) (upd (upd H dx (.own x)) x (.ins C dx [])) (fun v H2 => v = .non ∧ Q (.ref x) H2) (fun cls d H' => W cls d σ H')) :
    wpAny (model X.prog X.w) X.A (call (.ref C) us []) (EP X pins σ Q) X.xe s := by
  have hq := h (s.heap.objs.size + 1) s.heap.objs.size (I.hok.fresh (Nat.le_succ _)) (I.hok.fresh (Nat.le_refl _)) (Nat.ne_of_lt (Nat.lt_succ_self _))
  have J := Inv.made (C := C) I
  have both : Vals (V.ref (s.heap.objs.size + 1) :: vs) (Value.ref (s.heap.objs.size + 1) :: us) := .cons rfl r
  refine wpAny_call (make_map (f := f) I.kIn M.makes M.init (beq_iff_eq.mp M.fn) (codeAny_mono (F.run _ X.stack _ _ ⟨Value.ref (s.heap.objs.size + 1) :: us, []⟩ _ _ _ _ (make_guards hG) (hr.make C us [])
    (J.env0.make C us []) (hb.to _ (Value.ref (s.heap.objs.size + 1) :: us) [] J.kIn ?_) both hq) fun res s' out => ?_))
  · exact both.length.symm.trans (F.len _ _ _ _ hq)
  · match res, out with
    | .ok (.ret u), out =>
      obtain ⟨v, H', J', rv, ev, q3⟩ := J.after out
      subst ev
      exact ⟨rv, ⟨V.ref (s.heap.objs.size + 1), H', J', rfl, q3⟩⟩
    | .ok .next, out => exact out.elim
    | .ok .brk, out => exact out.elim
    | .ok .cont, out => exact out.elim
    | .error er, out => exact tk _ _ (XE.of_call J (fun _ _ _ z => z) out)
theorem pe_makeX (tk : Takes X W) (M : Mk X.K C f) (F : FnX X.prog X.w X.K X.mg X.base k f fd ps sp) (hr : Room (k + 1) X.A) (hG : X.A.guards = some []) (hg : Gl X x) (hm : X.mg x = some (.ref C)) (hb : KBinds X.K fd ps [] (fun us _ => us) (fun vs _ => vs))
    (ha : PA X (e :: es) t) (hdb : (x == ("__debug__" : Str)) = false) (he : starEach (e :: es) X.env = (false, eval e X.env) :: starEach es X.env)
    (hpl : ((backTo pos (starEach (e :: es) X.env)).any (·.1) || (backToKw pos (keywordEach [] X.env)).any (·.1.isNone)) = false) :
    PE X (.Call (.Name x p) (e :: es) [] pos) (fun σ H Q => t σ H fun vs H1 => ∀ x dx, H1 x = none → H1 dx = none → dx ≠ x →
      sp (.ref x :: vs) (upd (upd H1 dx (.own x)) x (.ins C dx [])) (fun v H3 => v = .non ∧ Q (.ref x) H3) (fun cls d H' => W cls d σ H')) := by
  constructor
  intro pins s σ H Q I h
  refine wpAny_Call_Name_kw (ld_glob I hg hm ?_ hdb)
  refine PySem.W.callWith_KW (h₀ := X.base) I.ok.mod.kin M.kp rfl (thn (ha.run pos pins s σ H _ I h) fun us s1 out1 => ?_) hpl he
  obtain ⟨vs, H1, I1, rel1, q1⟩ := out1
  refine thn (pk_nil.run pos pins s1 σ H1 (fun zs H2 => zs = [] ∧ H2 = H1) I1 ⟨rfl, rfl⟩) fun ws s2 out2 => ?_
  obtain ⟨zs, H2, I2, rel2, rfl, rfl⟩ := out2
  cases rel2
  exact ⟨I2.kIn, runMkX tk M F hr hG hb I2 rel1 q1⟩
end
section
variable {X : Cx} {k : Nat} {f C : Addr} {fd : FuncData} {ps ks : List Str} {sp : List V → Hp → VK → Prop} {x m : Str} {p pos apos : Pos} {o e : Expr} {es : List Expr} {kws : List Keyword} {ta : TE} {t tk : TA} {g : List Value → List Value → List Value} {gV : List V → List V → List V}
/-- what the text says of a class whose != is told by its own __eq__ -/
noncomputable def NeC (K : PySem.W.Frag) (C : Addr) : Prop := ∃ (nm q : Str) (N : Addr) (bs : List Value) (hdct : Bool) (sn : List Str) (sub : List Value) (ab : Bool) (col : Option Bool) (dd : Option Addr) (k0 k1 k2 k3 k5 : Option Value) (newId : String) (f : Addr),
  K.lookup C = some (excClassObj nm q C N bs [.type "object"] hdct sn sub ab col dd k0 k1 k2 k3 k5 newId) ∧ PySem.W.nsOkIn K N = true ∧ PySem.W.nsIn K N "__eq__" = some (some (.ref f)) ∧ PySem.W.nsIn K N "__ne__" = some none ∧ PySem.W.findIn K (.ref C) "__eq__" = some (some (.ref f))
end
end DL
namespace DL
open PySem PySem.Spec PyProof.Rows L2
section
variable {X : Cx}
theorem sumT_raw {prog : Program} {w : World} {A : Around} {E : Value → Shared → Prop} {s : Shared} {l : Addr} {its : List Value} {ns : List Int} {Q : Value → Shared → Prop} (hh : A.handled = none) (hl : s.heap.IsTuple l its.toArray) (hi : IntsAre its ns)
    (h : ∀ h' tk t', (∀ b o, s.heap.get? b = some o → h'.get? b = some o) → Q (.int ns.sum t') { s with heap := h', toks := tk }) : wpAny (model prog w) A (call (.builtin "sum") [.ref l]) Q E s := by
  obtain ⟨xs, e⟩ := hi.allInts.items
  have hn : numsOf (intItems xs).toList = ns := by rw [← e]; exact hi.numsOf
  rw [nums_intItems] at hn
  rw [e] at hl
  refine PySem.W.ktm_sumG hh hl fun h' tk t' hk => ?_
  have := h h' tk t' hk
  rw [preSum_eq, List.take_of_length_le (by simp), hn]; exact this
theorem cr_sumT (hc : X.calm = true) : CallR X (.builtin "sum") (fun vs H Q => ∃ (a : Addr) (ns : List Int), vs = [V.ref a] ∧ (SqL X.K H a (ns.map V.int) ∨ SqT X.K H a (ns.map V.int)) ∧ Q (.int ns.sum) H) := by
  intro pins s σ H vs us Q I r h
  obtain ⟨a, ns, rfl, hs, q⟩ := h
  rcases hs with hs | hs
  · exact cr_sum hc pins s σ H _ us Q I r ⟨a, ns, rfl, hs, q⟩
  · obtain ⟨its, rv, hl, _⟩ := I.tuple hs
    rw [Vals.ref1 r]
    exact sumT_raw (I.ok.hd hc) hl rv.ints fun h' tk t' hk => ⟨.int _, H, I.kept hk, ⟨_, rfl⟩, q⟩
end
noncomputable def BI.name : BI → Str
  | .len => "len" | .abs => "abs" | .min2 => "min" | .max2 => "max" | .int1 => "int" | .tuple1 => "tuple" | .list1 => "list" | .all1 => "all" | .any1 => "any" | .repr1 => "repr" | .sum1 => "sum" | .min1 => "min" | .max1 => "max" | .sorted1 => "sorted" | .reprE => "repr" | .min3 => "min" | .max3 => "max" | .str1 => "str" | .listD => "list" | .intS => "int" | .sortT => "sorted" | .sortL => "sorted" | .sortD => "sorted" | .minD => "min" | .sortP => "sorted"
noncomputable def BI.val : BI → Value
  | .len => .builtin "len" | .abs => .builtin "abs" | .min2 => .builtin "min" | .max2 => .builtin "max" | .int1 => .type "int" | .tuple1 => .type "tuple" | .list1 => .type "list" | .all1 => .builtin "all" | .any1 => .builtin "any"
  | .repr1 => .builtin "repr" | .sum1 => .builtin "sum" | .min1 => .builtin "min" | .max1 => .builtin "max" | .sorted1 => .builtin "sorted" | .reprE => .builtin "repr" | .min3 => .builtin "min" | .max3 => .builtin "max" | .str1 => .type "str" | .listD => .type "list" | .intS => .type "int" | .sortT => .builtin "sorted" | .sortL => .builtin "sorted" | .sortD => .builtin "sorted" | .minD => .builtin "min" | .sortP => .builtin "sorted"
theorem BI.boot : ∀ b : BI, bootBuiltins b.name = some b.val := by
  intro b; cases b <;> decide +kernel
theorem BI.nm : ∀ b : BI, b.name ≠ "__name__" ∧ (b.name == ("__debug__" : Str)) = false := by
  intro b; cases b <;> exact ⟨by decide +kernel, by decide +kernel⟩
section
variable {X : Cx} {K : PySem.W.Frag} {η μ : List Addr} {S : DStore} {H : Hp}
noncomputable def BiR (X : Cx) (b : BI) (r : List V → Hp → VK → Prop) : Prop := CallR X b.val r ∧ ∀ {η μ S H m ds vs QD Q}, Rp X.K η μ S H → RVs X.K H η μ ds vs → biD b m ds S QD → (∀ v H', Post X.K η μ H QD v H' → Q v H') → r vs H Q
theorem rvs_perm : ∀ {ds : List D} {vs ys : List V}, RVs K H η μ ds vs → ys.Perm vs → ∃ ds', ds'.Perm ds ∧ RVs K H η μ ds' ys := by
  intro ds vs ys h p
  induction p generalizing ds with
  | nil => exact ⟨ds, .refl _, h⟩
  | cons x p ih =>
    cases h with
    | cons a b =>
      obtain ⟨ds', e1, e2⟩ := ih b
      exact ⟨_ :: ds', e1.cons _, .cons a e2⟩
  | swap x y l =>
    cases h with
    | cons a b =>
      cases b with
      | cons c d => exact ⟨_, List.Perm.swap .., .cons c (.cons a d)⟩
  | trans p1 p2 ih1 ih2 =>
    obtain ⟨d1, e1, r1⟩ := ih2 h
    obtain ⟨d2, e2, r2⟩ := ih1 r1
    exact ⟨d2, e2.trans e1, r2⟩
theorem ints_rv : ∀ ns : List Int, RVs K H η μ (ns.map D.int) (ns.map V.int)
  | [] => .nil
  | n :: ns => .cons (.int n) (ints_rv ns)
theorem rks_pair : ∀ {kvs : List (List L2.Key × D)} {vs : List (List L2.Key × V)}, RKs K H η μ kvs vs → (∀ p ∈ kvs, ∃ i j : Int, p.1 = [Sum.inl i, Sum.inl j]) → ∀ p ∈ vs, ∃ i j : Int, p.1 = [Sum.inl i, Sum.inl j]
  | _, _, .nil, _, p, hp => absurd hp (by simp)
  | _, _, .cons a b, h, p, hp => by
    rcases List.mem_cons.mp hp with rfl | hp
    · exact h _ (List.mem_cons_self ..)
    · exact rks_pair b (fun q hq => h q (List.mem_cons_of_mem _ hq)) p hp
theorem rks_map {β : Type} {f : List L2.Key → β} : ∀ {kvs : List (List L2.Key × D)} {vs : List (List L2.Key × V)}, RKs K H η μ kvs vs → kvs.map (fun p => f p.1) = vs.map fun p => f p.1
  | _, _, .nil => rfl
  | _, _, .cons _ b => by rw [List.map_cons, List.map_cons, rks_map b]
theorem rvs_maps {α : Type} {f : α → D} {g : α → V} : ∀ {l : List α}, (∀ x ∈ l, RV K H η μ (f x) (g x)) → RVs K H η μ (l.map f) (l.map g)
  | [], _ => .nil
  | x :: l, h => .cons (h x (List.mem_cons_self ..)) (rvs_maps fun y hy => h y (List.mem_cons_of_mem _ hy))
noncomputable def iPr : List Int → Int × Int
  | [i, j] => (i, j)
  | _ => (0, 0)
theorem rks_SI : ∀ {kvs : List (List L2.Key × D)} {vs : List (List L2.Key × V)}, RKs K H η μ kvs vs → (∀ p ∈ kvs, SI p.1) → ∀ p ∈ vs, SI p.1
  | _, _, .nil, _, p, hp => absurd hp (by simp)
  | _, _, .cons a b, h, p, hp => by
    rcases List.mem_cons.mp hp with rfl | hp
    · exact h _ (List.mem_cons_self ..)
    · exact rks_SI b (fun q hq => h q (List.mem_cons_of_mem _ hq)) p hp
theorem rks_keys : ∀ {kvs : List (List L2.Key × D)} {vs : List (List L2.Key × V)} {bs : List Addr}, RKs K H η μ kvs vs → IsKeys H vs bs → RVs K H η μ (kvs.map fun p => D.tup (p.1.map keyD)) (bs.map V.ref)
  | _, _, _, .nil, .nil => .nil
  | _, _, _, .cons a b, .cons h t => .cons (.tup (.inl (.inl h)) (keyD_rv _)) (rks_keys b t)
theorem pur_tI (r : List Int) : pur (tI r) = some (.tuple (r.map PyData.int)) := by
  have : ∀ r : List Int, purs (r.map D.int) = some (r.map PyData.int) := fun r => by
    induction r with
    | nil => rfl
    | cons x r ih => simp only [List.map_cons, purs, pur, ih, Option.bind_some, Option.map_some]
  simp only [tI, pur, this, Option.map_some]
theorem rvs_pairs : ∀ {bs : List (V × List Int)}, (∀ b ∈ bs, RV K H η μ (tI b.2) b.1) → RVs K H η μ (bs.map (tI ∘ (·.2))) (bs.map (·.1))
  | [], _ => .nil
  | b :: bs, h => .cons (h b (List.mem_cons_self ..)) (rvs_pairs fun c hc => h c (List.mem_cons_of_mem _ hc))
theorem perm_map {α β : Type} (f : α → β) : ∀ (l' : List β) (l : List α), l'.Perm (l.map f) → ∃ k : List α, k.Perm l ∧ k.map f = l'
  | [], l, h => by
    have : l = [] := by
      have := h.length_eq
      rw [List.length_map] at this
      exact List.length_eq_zero_iff.mp (by simpa using this.symm)
    subst this
    exact ⟨[], .refl _, rfl⟩
  | b :: r, l, h => by
    obtain ⟨a, ha, rfl⟩ := List.mem_map.mp (h.subset (List.mem_cons_self ..))
    obtain ⟨s, t, rfl⟩ := List.append_of_mem ha
    have h2 : r.Perm ((s ++ t).map f) := by
      have e : ((s ++ a :: t).map f).Perm (f a :: (s ++ t).map f) := by
        rw [List.map_append, List.map_append, List.map_cons]
        exact List.perm_middle
      exact (h.trans e).cons_inv
    obtain ⟨k, k1, k2⟩ := perm_map f r (s ++ t) h2
    exact ⟨a :: k, (k1.cons a).trans List.perm_middle.symm, by rw [List.map_cons, k2]⟩
theorem rvs_trip : ∀ {cs : List (V × (D × PyData))}, (∀ c ∈ cs, RV K H η μ c.2.1 c.1) → RVs K H η μ (cs.map fun c => c.2.1) (cs.map (·.1))
  | [], _ => .nil
  | b :: bs, h => .cons (h b (List.mem_cons_self ..)) (rvs_trip fun c hc => h c (List.mem_cons_of_mem _ hc))
theorem zip_rv {bs : List (D × PyData)} {vs : List V} (qs : RVs K H η μ (bs.map (·.1)) vs) : (vs.zip bs).map (·.1) = vs ∧ (vs.zip bs).map (·.2) = bs ∧ ∀ c ∈ vs.zip bs, c.2 ∈ bs ∧ RV K H η μ c.2.1 c.1 := by
  have hlen : bs.length = vs.length := by
    have := qs.length
    rwa [List.length_map] at this
  refine ⟨List.map_fst_zip (by omega), List.map_snd_zip (by omega), fun c hc => ?_⟩
  obtain ⟨i, hi⟩ := List.getElem?_of_mem hc
  obtain ⟨h1, h2⟩ := List.getElem?_zip_eq_some.mp hi
  obtain ⟨v, hv, rv⟩ := qs.get (show (bs.map (·.1))[i]? = some c.2.1 by rw [List.getElem?_map, h2]; rfl)
  rw [h1] at hv
  cases hv
  exact ⟨List.mem_of_getElem? h2, rv⟩
theorem rvs1 {d : D} {vs : List V} (h : RVs K H η μ [d] vs) : ∃ v, vs = [v] ∧ RV K H η μ d v := by
  cases h with
  | cons a b => cases b; exact ⟨_, rfl, a⟩
theorem rvs2 {d e : D} {vs : List V} (h : RVs K H η μ [d, e] vs) : ∃ v w, vs = [v, w] ∧ RV K H η μ d v ∧ RV K H η μ e w := by
  cases h with
  | cons a b => obtain ⟨w, rfl, c⟩ := rvs1 b; exact ⟨_, _, rfl, a, c⟩
theorem readsAll_ints {h : Heap} : ∀ {ns : List Int} {its : List Value}, Vals (ns.map V.int) its → ReadsAll h its (ns.map PyData.int) []
  | [], _, r => by cases r; exact .nil
  | n :: ns, _, r => by
    cases r with
    | cons a b =>
      obtain ⟨t, rfl⟩ := a
      exact .cons (as := []) (bs := []) (.int _ _) (readsAll_ints b)
theorem depth_ints : ∀ xs : List Int, PyData.depthAll (xs.map .int) = 0
  | [] => rfl
  | x :: xs => by simp [PyData.depthAll, PyData.depth, depth_ints xs]
theorem alike_ints (n : Int) (ns : List Int) : PySem.W.AlikeAll (.int n :: ns.map .int) := by
  have h : ∀ x ∈ (PyData.int n :: ns.map .int), ∃ k, x = .int k := by
    intro x hx
    rcases List.mem_cons.mp hx with rfl | hx
    · exact ⟨_, rfl⟩
    · obtain ⟨k, _, rfl⟩ := List.mem_map.mp hx; exact ⟨_, rfl⟩
  refine ⟨fun x hx y hy => ?_, fun x hx => ?_⟩
  · obtain ⟨i, rfl⟩ := h x hx
    obtain ⟨j, rfl⟩ := h y hy
    rfl
  · obtain ⟨i, rfl⟩ := h x hx
    exact fun z => nomatch z
theorem foldl_min : ∀ (ns : List Int) (n : Int), ns.foldl min n ∈ n :: ns ∧ ∀ y ∈ n :: ns, ns.foldl min n ≤ y
  | [], n => ⟨by simp, fun y hy => by simp at hy; subst hy; exact Int.le_refl _⟩
  | m :: ns, n => by
    obtain ⟨h1, h2⟩ := foldl_min ns (min n m)
    simp only [List.foldl_cons]
    have h3 := h2 (min n m) (by simp)
    refine ⟨?_, fun y hy => ?_⟩
    · rcases List.mem_cons.mp h1 with h | h
      · rw [h]
        rcases Int.le_total n m with z | z
        · rw [Int.min_eq_left z]; simp
        · rw [Int.min_eq_right z]; simp
      · simp [h]
    · rcases List.mem_cons.mp hy with rfl | hy
      · omega
      · rcases List.mem_cons.mp hy with rfl | hy
        · omega
        · exact h2 y (by simp [hy])
theorem foldl_max : ∀ (ns : List Int) (n : Int), ns.foldl max n ∈ n :: ns ∧ ∀ y ∈ n :: ns, y ≤ ns.foldl max n
  | [], n => ⟨by simp, fun y hy => by simp at hy; subst hy; exact Int.le_refl _⟩
  | m :: ns, n => by
    obtain ⟨h1, h2⟩ := foldl_max ns (max n m)
    simp only [List.foldl_cons]
    have h3 := h2 (max n m) (by simp)
    refine ⟨?_, fun y hy => ?_⟩
    · rcases List.mem_cons.mp h1 with h | h
      · rw [h]
        rcases Int.le_total n m with z | z
        · rw [Int.max_eq_right z]; simp
        · rw [Int.max_eq_left z]; simp
      · simp [h]
    · rcases List.mem_cons.mp hy with rfl | hy
      · omega
      · rcases List.mem_cons.mp hy with rfl | hy
        · omega
        · exact h2 y (by simp [hy])
theorem cr_minT (hc : X.calm = true) (hu : X.A.units + 64 < cLine) : CallR X (.builtin "min") (fun vs H Q => ∃ (a : Addr) (ns : List Int), vs = [V.ref a] ∧ SqT X.K H a (ns.map V.int) ∧ 0 < ns.length ∧ ∀ m, m ∈ ns → (∀ y, y ∈ ns → m ≤ y) → Q (.int m) H) := by
  intro pins s σ H vs us Q I r h
  obtain ⟨a, ns, rfl, hs, hne, q⟩ := h
  obtain ⟨its, rv, p, _⟩ := I.tuple hs
  rw [Vals.ref1 r]
  cases ns with
  | nil => exact absurd hne (by simp)
  | cons n ns =>
    refine PySem.W.min_tuple_data (x := .int n) (xs := ns.map .int) (as := []) (I.ok.hd hc) (show s.heap.IsTuple a its.toArray from p) (readsAll_ints (ns := n :: ns) rv) (alike_ints n ns) (by rw [show PyData.int n :: ns.map .int = (n :: ns).map .int from rfl, depth_ints]; omega) fun i v h' tk bs hi rd hk => ?_
    rw [PySem.W.minD_ints] at rd
    cases rd
    obtain ⟨h1, h2⟩ := foldl_min ns n
    exact ⟨.int _, H, I.kept hk, ⟨_, rfl⟩, q _ h1 h2⟩
theorem cr_maxT (hc : X.calm = true) (hu : X.A.units + 64 < cLine) : CallR X (.builtin "max") (fun vs H Q => ∃ (a : Addr) (ns : List Int), vs = [V.ref a] ∧ SqT X.K H a (ns.map V.int) ∧ 0 < ns.length ∧ ∀ m, m ∈ ns → (∀ y, y ∈ ns → y ≤ m) → Q (.int m) H) := by
  intro pins s σ H vs us Q I r h
  obtain ⟨a, ns, rfl, hs, hne, q⟩ := h
  obtain ⟨its, rv, p, _⟩ := I.tuple hs
  rw [Vals.ref1 r]
  cases ns with
  | nil => exact absurd hne (by simp)
  | cons n ns =>
    refine PySem.W.max_tuple_data (x := .int n) (xs := ns.map .int) (as := []) (I.ok.hd hc) (show s.heap.IsTuple a its.toArray from p) (readsAll_ints (ns := n :: ns) rv) (alike_ints n ns) (by rw [show PyData.int n :: ns.map .int = (n :: ns).map .int from rfl, depth_ints]; omega) fun i v h' tk bs hi rd hk => ?_
    rw [PySem.W.maxD_ints] at rd
    cases rd
    obtain ⟨h1, h2⟩ := foldl_max ns n
    exact ⟨.int _, H, I.kept hk, ⟨_, rfl⟩, q _ h1 h2⟩
theorem tl_of (r : Rp K η μ S H) {d : D} {v : V} {xs : List D} (rv : RV K H η μ d v) (e : tlOf S d = some xs) : ∃ a vs, v = .ref a ∧ (SqL K H a vs ∨ SqT K H a vs) ∧ RVs K H η μ xs vs := by
  cases rv with
  | tup h q => simp [tlOf] at e; subst e; exact ⟨_, _, rfl, .inr h, q⟩
  | ptup h h2 q => simp [tlOf] at e; subst e; exact ⟨_, _, rfl, .inr (.inl (.inr ⟨_, h⟩)), q⟩
  | lst hm hn h q =>
    obtain ⟨a, vs, e1, e2, e3⟩ := lst_of r (.lst hm hn h q) e
    exact ⟨a, vs, e1, .inl (.inl (.inl e2)), e3⟩
  | ref h =>
    obtain ⟨a, vs, e1, e2, e3⟩ := lst_of r (.ref h) e
    exact ⟨a, vs, e1, .inl (.inl (.inl e2)), e3⟩
  | _ => simp [tlOf, lstOf] at e
theorem uniq_min {bs : List Int} {m m' : Int} (h1 : m ∈ bs) (h2 : ∀ y ∈ bs, m ≤ y) (h3 : m' ∈ bs) (h4 : ∀ y ∈ bs, m' ≤ y) : m' = m := by
  have := h2 m' h3; have := h4 m h1; omega
theorem uniq_max {bs : List Int} {m m' : Int} (h1 : m ∈ bs) (h2 : ∀ y ∈ bs, y ≤ m) (h3 : m' ∈ bs) (h4 : ∀ y ∈ bs, y ≤ m') : m' = m := by
  have := h2 m' h3; have := h4 m h1; omega
theorem rvs3 {d e f : D} {vs : List V} (h : RVs K H η μ [d, e, f] vs) : ∃ v w u, vs = [v, w, u] ∧ RV K H η μ d v ∧ RV K H η μ e w ∧ RV K H η μ f u := by
  cases h with
  | cons a b => obtain ⟨w, u, rfl, c, d⟩ := rvs2 b; exact ⟨_, _, _, rfl, a, c, d⟩
theorem biR (hc : X.calm = true) (hG : X.A.guards = some []) (hu : X.A.units + 64 < cLine) : ∀ b, ∃ r, BiR X b r
  | .len => ⟨_, call_len, fun {η μ S H m ds vs QD Q} r rv h hQ => by
      unfold biD at h
      split at h <;> first | exact h.elim | skip
      all_goals try (rename_i e1; cases e1)
      · obtain ⟨v, rfl, a⟩ := rvs1 rv; cases a
        exact ⟨_, _, rfl, ⟨h.1, rfl⟩, hQ _ _ (stay r (.int _) h.2)⟩
      · obtain ⟨v, rfl, a⟩ := rvs1 rv
        obtain ⟨xs, e, q⟩ := h
        obtain ⟨b, vs, rfl, hq, qs⟩ := seq_of r a e
        rw [qs.length] at q
        rcases hq with hq | hq
        · exact ⟨_, _, rfl, .inl ⟨_, hq, rfl⟩, hQ _ _ (stay r (.int _) q)⟩
        · exact ⟨_, _, rfl, .inr ⟨_, hq, rfl⟩, hQ _ _ (stay r (.int _) q)⟩⟩
  | .abs => ⟨_, call_abs, fun {η μ S H m ds vs QD Q} r rv h hQ => by
      unfold biD at h
      split at h <;> first | exact h.elim | skip
      all_goals try (rename_i e1; cases e1)
      · obtain ⟨v, rfl, a⟩ := rvs1 rv; cases a
        exact ⟨_, rfl, hQ _ _ (stay r (.int _) h)⟩⟩
  | .min2 => ⟨_, call_min2 hc, fun {η μ S H m ds vs QD Q} r rv h hQ => by
      unfold biD at h
      split at h <;> first | exact h.elim | skip
      all_goals try (rename_i e1; cases e1)
      · obtain ⟨v, w, rfl, a, b⟩ := rvs2 rv; cases a; cases b
        exact ⟨_, _, rfl, hQ _ _ (stay r (.int _) h)⟩⟩
  | .max2 => ⟨_, call_max2 hc, fun {η μ S H m ds vs QD Q} r rv h hQ => by
      unfold biD at h
      split at h <;> first | exact h.elim | skip
      all_goals try (rename_i e1; cases e1)
      · obtain ⟨v, w, rfl, a, b⟩ := rvs2 rv; cases a; cases b
        exact ⟨_, _, rfl, hQ _ _ (stay r (.int _) h)⟩⟩
  | .int1 => ⟨_, call_int1, fun {η μ S H m ds vs QD Q} r rv h hQ => by
      unfold biD at h
      split at h <;> first | exact h.elim | skip
      all_goals try (rename_i e1; cases e1)
      · obtain ⟨v, rfl, a⟩ := rvs1 rv; cases a
        exact .inl ⟨_, rfl, hQ _ _ (stay r (.int _) h)⟩
      · obtain ⟨v, rfl, a⟩ := rvs1 rv; cases a
        exact .inr ⟨_, rfl, hQ _ _ (stay r (.int _) h)⟩⟩
  | .tuple1 => ⟨_, call_tuple_of, fun {η μ S H m ds vs QD Q} r rv h hQ => by
      unfold biD at h
      split at h <;> first | exact h.elim | skip
      all_goals try (rename_i e1; cases e1)
      · obtain ⟨v, rfl, a⟩ := rvs1 rv
        cases a with
        | tup h1 q1 => exact ⟨_, _, rfl, .inr ⟨h1, hQ _ _ (stay r (.tup h1 q1) h)⟩⟩
      · obtain ⟨v, rfl, a⟩ := rvs1 rv
        obtain ⟨xs, e, q⟩ := h
        obtain ⟨b, vs, rfl, hq, qs⟩ := lst_of r a e
        exact ⟨_, _, rfl, .inl ⟨.inl (.inl hq), fun p hp => hQ _ _ (new_tup r qs q p hp)⟩⟩⟩
  | .list1 => ⟨_, call_list_of, fun {η μ S H m ds vs QD Q} r rv h hQ => by
      unfold biD at h
      split at h <;> first | exact h.elim | skip
      all_goals try (rename_i e1; cases e1)
      · obtain ⟨v, rfl, a⟩ := rvs1 rv
        obtain ⟨xs, e, q⟩ := h
        obtain ⟨b, vs, rfl, hq, qs⟩ := seq_of r a e
        exact ⟨_, _, rfl, hq, fun p hp => hQ _ _ (new_lst r qs q p hp)⟩⟩
  | .all1 => ⟨_, cr_all hc, fun {η μ S H m ds vs QD Q} r rv h hQ => by
      unfold biD at h
      split at h <;> first | exact h.elim | skip
      all_goals try (rename_i e1; cases e1)
      · obtain ⟨v, rfl, a⟩ := rvs1 rv
        obtain ⟨xs, bs, e, eb, q⟩ := h
        obtain ⟨b, vs, rfl, hq, qs⟩ := lst_of r a e
        exact ⟨_, bs, rfl, .inl (.inl (by rw [← bls_of qs eb]; exact hq)), hQ _ _ (stay r (.bl _) q)⟩⟩
  | .any1 => ⟨_, cr_any hc, fun {η μ S H m ds vs QD Q} r rv h hQ => by
      unfold biD at h
      split at h <;> first | exact h.elim | skip
      all_goals try (rename_i e1; cases e1)
      · obtain ⟨v, rfl, a⟩ := rvs1 rv
        obtain ⟨xs, bs, e, eb, q⟩ := h
        obtain ⟨b, vs, rfl, hq, qs⟩ := lst_of r a e
        exact ⟨_, bs, rfl, .inl (.inl (by rw [← bls_of qs eb]; exact hq)), hQ _ _ (stay r (.bl _) q)⟩⟩
  | .sum1 => ⟨_, cr_sumT hc, fun {η μ S H m ds vs QD Q} r rv h hQ => by
      unfold biD at h
      split at h <;> first | exact h.elim | skip
      all_goals try (rename_i e1; cases e1)
      · obtain ⟨v, rfl, a⟩ := rvs1 rv
        obtain ⟨xs, bs, e, eb, q⟩ := h
        obtain ⟨b, vs, rfl, hq, qs⟩ := tl_of r a e
        exact ⟨_, bs, rfl, by rw [← ints_of qs eb]; exact hq, hQ _ _ (stay r (.int _) q)⟩⟩
  | .repr1 => ⟨_, call_reprD hG hu, fun {η μ S H m ds vs QD Q} r rv h hQ => by
      unfold biD at h
      split at h <;> first | exact h.elim | skip
      all_goals try (rename_i e1; cases e1)
      · obtain ⟨v, rfl, a⟩ := rvs1 rv
        obtain ⟨p, e, ok, q⟩ := h
        exact ⟨_, p, rfl, dpS_of r a e, ok, hQ _ _ (stay r (.str _) q)⟩⟩
  | .reprE => ⟨_, call_reprE hG hu, fun {η μ S H m ds vs QD Q} r rv h hQ => by
      unfold biD at h
      split at h <;> first | exact h.elim | skip
      all_goals try (rename_i e1; cases e1)
      · obtain ⟨v, rfl, a⟩ := rvs1 rv
        obtain ⟨p, e, ok, q⟩ := h
        exact ⟨_, p, rfl, dpE_of r a e, ok, hQ _ _ (stay r (.str _) q)⟩⟩
  | .min1 => ⟨_, (cr_min hc).or (cr_minT hc hu), fun {η μ S H m ds vs QD Q} r rv h hQ => by
      unfold biD at h
      split at h <;> first | exact h.elim | skip
      all_goals try (rename_i e1; cases e1)
      · obtain ⟨v, rfl, a⟩ := rvs1 rv
        obtain ⟨xs, bs, k, e, eb, hk1, hk2, q⟩ := h
        obtain ⟨b, vs, rfl, hq, qs⟩ := tl_of r a e
        have hl : 0 < bs.length := List.length_pos_of_mem hk1
        rw [ints_of qs eb] at hq
        rcases hq with hq | hq
        · exact .inl ⟨_, bs, rfl, hq, hl, fun k' h1 h2 => by rw [uniq_min hk1 hk2 h1 h2]; exact hQ _ _ (stay r (.int _) q)⟩
        · exact .inr ⟨_, bs, rfl, hq, hl, fun k' h1 h2 => by rw [uniq_min hk1 hk2 h1 h2]; exact hQ _ _ (stay r (.int _) q)⟩⟩
  | .max1 => ⟨_, (cr_max hc).or (cr_maxT hc hu), fun {η μ S H m ds vs QD Q} r rv h hQ => by
      unfold biD at h
      split at h <;> first | exact h.elim | skip
      all_goals try (rename_i e1; cases e1)
      · obtain ⟨v, rfl, a⟩ := rvs1 rv
        obtain ⟨xs, bs, k, e, eb, hk1, hk2, q⟩ := h
        obtain ⟨b, vs, rfl, hq, qs⟩ := tl_of r a e
        have hl : 0 < bs.length := List.length_pos_of_mem hk1
        rw [ints_of qs eb] at hq
        rcases hq with hq | hq
        · exact .inl ⟨_, bs, rfl, hq, hl, fun k' h1 h2 => by rw [uniq_max hk1 hk2 h1 h2]; exact hQ _ _ (stay r (.int _) q)⟩
        · exact .inr ⟨_, bs, rfl, hq, hl, fun k' h1 h2 => by rw [uniq_max hk1 hk2 h1 h2]; exact hQ _ _ (stay r (.int _) q)⟩⟩
  | .min3 => ⟨_, call_min3Nu hc, fun {η μ S H m ds vs QD Q} r rv h hQ => by
      unfold biD at h
      split at h <;> first | exact h.elim | skip
      all_goals try (rename_i e1; cases e1)
      · obtain ⟨v, w, u, rfl, a, b, c⟩ := rvs3 rv; cases a; cases b; cases c
        refine ⟨_, _, _, _, rfl, ?_, hQ _ _ (stay r (.int _) h)⟩
        simp only [nuMin3, nuMin2, nuLt, nuCB, Option.map_some, Option.bind_some, decide_eq_true_eq, gt_iff_lt]
        first
          | rfl
          | (split <;> simp only [nuLt, nuCB, Option.map_some, decide_eq_true_eq] <;> first | rfl | (split <;> rfl))⟩
  | .max3 => ⟨_, call_max3Nu hc, fun {η μ S H m ds vs QD Q} r rv h hQ => by
      unfold biD at h
      split at h <;> first | exact h.elim | skip
      all_goals try (rename_i e1; cases e1)
      · obtain ⟨v, w, u, rfl, a, b, c⟩ := rvs3 rv; cases a; cases b; cases c
        refine ⟨_, _, _, _, rfl, ?_, hQ _ _ (stay r (.int _) h)⟩
        simp only [nuMax3, nuMax2, nuLt, nuCB, Option.map_some, Option.bind_some, decide_eq_true_eq, gt_iff_lt]
        first
          | rfl
          | (split <;> simp only [nuLt, nuCB, Option.map_some, decide_eq_true_eq] <;> first | rfl | (split <;> rfl))⟩
  | .sortT => ⟨_, cr_sortedTI, fun {η μ S H m ds vs QD Q} r rv h hQ => by
      unfold biD at h
      split at h <;> first | exact h.elim | skip
      all_goals try (rename_i e1; cases e1)
      · obtain ⟨v, rfl, a⟩ := rvs1 rv
        obtain ⟨ns, en, q⟩ := h
        cases a with
        | tup hq qs =>
          rw [ints_of qs en] at hq
          exact ⟨_, ns, rfl, hq, fun ns' p h1 h2 hpn => hQ _ _ (new_lst r (ints_rv ns') (q ns' h1 h2) p hpn)⟩⟩
  | .sortL => ⟨_, cr_sortedLT hu, fun {η μ S H m ds vs QD Q} r rv h hQ => by
      unfold biD at h
      split at h <;> first | exact h.elim | skip
      all_goals try (rename_i e1; cases e1)
      · obtain ⟨v, rfl, a⟩ := rvs1 rv
        obtain ⟨rows, e, hne, q⟩ := h
        obtain ⟨b, vs, rfl, hq, qs⟩ := lst_of r a e
        have hlen : rows.length = vs.length := by
          have := qs.length
          rwa [List.length_map] at this
        have e1 : (vs.zip rows).map (·.1) = vs := List.map_fst_zip (by omega)
        have e2 : (vs.zip rows).map (·.2) = rows := List.map_snd_zip (by omega)
        have mem : ∀ b ∈ vs.zip rows, b.2 ∈ rows ∧ RV X.K H η μ (tI b.2) b.1 := fun b hb => by
          obtain ⟨i, hi⟩ := List.getElem?_of_mem hb
          obtain ⟨h1, h2⟩ := List.getElem?_zip_eq_some.mp hi
          obtain ⟨v, hv, rv⟩ := qs.get (show (rows.map tI)[i]? = some (tI b.2) by rw [List.getElem?_map, h2]; rfl)
          rw [h1] at hv
          cases hv
          exact ⟨List.mem_of_getElem? h2, rv⟩
        refine ⟨b, vs.zip rows, rfl, by rw [e1]; exact .inl (.inl hq), fun b hb => ⟨hne _ (mem b hb).1, dp_of (mem b hb).2 (pur_tI _)⟩, fun bs' p hp hpw hpn => ?_⟩
        refine hQ _ _ (new_lst (m := m) r (rvs_pairs fun b hb => (mem b (hp.mem_iff.mp hb)).2) ?_ p hpn)
        have hperm : (bs'.map (·.2)).Perm rows := by
          have := hp.map (·.2)
          rwa [e2] at this
        have := q _ hperm (List.pairwise_map.mpr hpw)
        rwa [List.map_map] at this⟩
  | .sortP => ⟨_, cr_sortedDP hc hu, fun {η μ S H m ds vs QD Q} r rv h hQ => by
      unfold biD at h
      split at h <;> first | exact h.elim | skip
      all_goals try (rename_i e1; cases e1)
      · obtain ⟨v, rfl, a⟩ := rvs1 rv
        obtain ⟨n, kvs, rfl, e, hp, q⟩ := h
        obtain ⟨b, vs, rfl, hd, ks⟩ := dct_of r a e
        have hpv := rks_pair ks hp
        refine ⟨b, vs, rfl, hd, hpv, fun p bs bs' hpn hbs hbt hperm hpw => ?_⟩
        have hpr : ∀ c ∈ bs, ∃ i j : Int, c.2 = [i, j] := fun c hc => by
          have hm : c.2 ∈ vs.map fun q => kI q.1 := by rw [← hbs]; exact List.mem_map.mpr ⟨c, hc, rfl⟩
          obtain ⟨w, hw, e3⟩ := List.mem_map.mp hm
          obtain ⟨i, j, e4⟩ := hpv w hw
          rw [e4] at e3
          exact ⟨i, j, e3.symm⟩
        have rvs' : RVs X.K H η μ ((bs'.map fun c => iPr c.2).map pD) (bs'.map (·.1)) := by
          rw [List.map_map]
          refine rvs_maps fun c hc => ?_
          have hc' := hperm.mem_iff.mp hc
          obtain ⟨i, j, e3⟩ := hpr c hc'
          obtain ⟨a', e4, e5⟩ := hbt c hc'
          show RV X.K H η μ (pD (iPr c.2)) c.1
          rw [e4, e3]
          rw [e3] at e5
          exact .tup (.inl (.inl e5)) (.cons (.int _) (.cons (.int _) .nil))
        refine hQ _ _ (new_lst r rvs' (q _ ?_ ?_) p hpn)
        · have e6 : kvs.map (fun p => kPr p.1) = bs.map fun c => iPr c.2 := by
            have e7 : bs.map (fun c => iPr c.2) = (vs.map fun q => kI q.1).map iPr := by rw [← hbs, List.map_map]; rfl
            rw [e7, List.map_map, rks_map (f := kPr) ks]
            refine List.map_congr_left fun w hw => ?_
            obtain ⟨i, j, e4⟩ := hpv w hw
            show kPr w.1 = iPr (kI w.1)
            rw [e4]
            rfl
          rw [e6]
          exact hperm.map _
        · rw [List.pairwise_map]
          refine hpw.imp_of_mem fun {x y} hx hy hxy => ?_
          obtain ⟨i, j, e3⟩ := hpr x (hperm.mem_iff.mp hx)
          obtain ⟨i', j', e4⟩ := hpr y (hperm.mem_iff.mp hy)
          rw [e3, e4] at hxy ⊢
          rcases List.cons_le_cons_iff.mp hxy with h1 | ⟨h1, h2⟩
          · exact .inl h1
          · refine .inr ⟨h1, ?_⟩
            rcases List.cons_le_cons_iff.mp h2 with h3 | ⟨h3, _⟩
            · exact Int.le_of_lt h3
            · exact Int.le_of_eq h3⟩
  | .sortD => ⟨_, cr_sortedAD hu, fun {η μ S H m ds vs QD Q} r rv h hQ => by
      unfold biD at h
      split at h <;> first | exact h.elim | skip
      all_goals try (rename_i e1; cases e1)
      · obtain ⟨v, rfl, a⟩ := rvs1 rv
        obtain ⟨bs, e, hb, hal, hso, q⟩ := h
        obtain ⟨b, vs, rfl, hq, qs⟩ := lst_of r a e
        obtain ⟨e1, e2, mem⟩ := zip_rv qs
        have ef : ((vs.zip bs).map fun c => ((c.1, c.2.2) : V × PyData)).map (·.1) = vs := by rw [List.map_map]; exact e1
        have es : ((vs.zip bs).map fun c => ((c.1, c.2.2) : V × PyData)).map sndP = bs.map (·.2) := by
          rw [List.map_map]
          have := congrArg (List.map fun x : D × PyData => x.2) e2
          rwa [List.map_map] at this
        refine ⟨b, (vs.zip bs).map fun c => (c.1, c.2.2), rfl, by rw [ef]; exact .inl (.inl hq), fun c hc => ?_, by rw [es]; exact hal, by rw [es]; exact hso, fun bs' p hp hpw hpn => ?_⟩
        · obtain ⟨w, hw, rfl⟩ := List.mem_map.mp hc
          obtain ⟨m1, m2⟩ := mem w hw
          exact ⟨(hb _ m1).2, dp_of m2 (hb _ m1).1⟩
        · obtain ⟨k, k1, rfl⟩ := perm_map _ _ _ hp
          have g1 : (k.map (·.2)).Perm bs := by have := k1.map (·.2); rwa [e2] at this
          have n1 : ((k.map fun c => ((c.1, c.2.2) : V × PyData)).map (·.1)) = k.map (·.1) := by rw [List.map_map]; rfl
          rw [n1]
          refine hQ _ _ (new_lst (m := m) r (rvs_trip fun c hc => (mem c (k1.mem_iff.mp hc)).2) ?_ p hpn)
          have := q (k.map (·.2)) g1 (List.pairwise_map.mpr (List.pairwise_map.mp hpw))
          rwa [List.map_map] at this⟩
  | .minD => ⟨_, cr_minAD hc hu, fun {η μ S H m ds vs QD Q} r rv h hQ => by
      unfold biD at h
      split at h <;> first | exact h.elim | skip
      all_goals try (rename_i e1; cases e1)
      · obtain ⟨v, rfl, a⟩ := rvs1 rv
        obtain ⟨bs, e, hne, hb, hal, q⟩ := h
        obtain ⟨b, vs, rfl, hq, qs⟩ := lst_of r a e
        obtain ⟨e1, e2, mem⟩ := zip_rv qs
        have ef : ((vs.zip bs).map fun c => ((c.1, c.2.2) : V × PyData)).map (·.1) = vs := by rw [List.map_map]; exact e1
        have es : ((vs.zip bs).map fun c => ((c.1, c.2.2) : V × PyData)).map sndP = bs.map (·.2) := by
          rw [List.map_map]
          have := congrArg (List.map fun x : D × PyData => x.2) e2
          rwa [List.map_map] at this
        refine ⟨b, (vs.zip bs).map fun c => (c.1, c.2.2), rfl, by rw [ef]; exact .inl (.inl hq), fun z => ?_, fun c hc => ?_, by rw [es]; exact hal, fun c hc hmin => ?_⟩
        · have h0 : ((vs.zip bs).map (·.2)) = [] := by
            have := List.map_eq_nil_iff.mp z
            rw [this]; rfl
          rw [e2] at h0
          exact hne h0
        · obtain ⟨w, hw, rfl⟩ := List.mem_map.mp hc
          obtain ⟨m1, m2⟩ := mem w hw
          exact ⟨(hb _ m1).2, dp_of m2 (hb _ m1).1⟩
        · obtain ⟨w, hw, rfl⟩ := List.mem_map.mp hc
          obtain ⟨m1, m2⟩ := mem w hw
          refine hQ _ _ (stay r m2 (q w.2 m1 fun d hd => ?_))
          rw [← e2] at hd
          obtain ⟨u, hu', rfl⟩ := List.mem_map.mp hd
          exact hmin (u.1, u.2.2) (List.mem_map.mpr ⟨u, hu', rfl⟩)⟩
  | .intS => ⟨_, call_int_str, fun {η μ S H m ds vs QD Q} r rv h hQ => by
      unfold biD at h
      split at h <;> first | exact h.elim | skip
      all_goals try (rename_i e1; cases e1)
      · obtain ⟨v, rfl, a⟩ := rvs1 rv; cases a
        obtain ⟨n, e, hl, q⟩ := h
        exact ⟨_, n, rfl, e, hl, hQ _ _ (stay r (.int _) q)⟩⟩
  | .str1 => ⟨_, call_str_int, fun {η μ S H m ds vs QD Q} r rv h hQ => by
      unfold biD at h
      split at h <;> first | exact h.elim | skip
      all_goals try (rename_i e1; cases e1)
      · obtain ⟨v, rfl, a⟩ := rvs1 rv
        obtain ⟨i, rfl, hl, q⟩ := h
        cases a
        exact ⟨_, rfl, hl, hQ _ _ (stay r (.str _) q)⟩⟩
  | .listD => ⟨_, call_list_dT hc, fun {η μ S H m ds vs QD Q} r rv h hQ => by
      unfold biD at h
      split at h <;> first | exact h.elim | skip
      all_goals try (rename_i e1; cases e1)
      · obtain ⟨v, rfl, a⟩ := rvs1 rv
        obtain ⟨n, kvs, rfl, e, q⟩ := h
        obtain ⟨b, vs, rfl, hd, ks⟩ := dct_of r a e
        exact ⟨_, _, rfl, hd, fun p bs hpn hk => hQ _ _ (new_lst r (rks_keys ks hk) q p hpn)⟩⟩
  | .sorted1 => ⟨_, cr_sortedI.or ((cr_sortedDT hc).or (cr_sortedDS hc hu)), fun {η μ S H m ds vs QD Q} r rv h hQ => by
      unfold biD at h
      split at h <;> first | exact h.elim | skip
      all_goals try (rename_i e1; cases e1)
      · obtain ⟨v, rfl, a⟩ := rvs1 rv
        rcases h with ⟨xs, ns, e, en, q⟩ | ⟨n, kvs, rfl, e, hp, q⟩ | ⟨n, kvs, rfl, e, hp, q⟩
        · obtain ⟨b, vs, rfl, hq, qs⟩ := lst_of r a e
          rw [ints_of qs en] at hq
          exact .inl ⟨b, ns, rfl, .inl (.inl hq), fun ns' p h1 h2 hpn => hQ _ _ (new_lst r (ints_rv ns') (q ns' h1 h2) p hpn)⟩
        · obtain ⟨b, vs, rfl, hd, ks⟩ := dct_of r a e
          refine .inr (.inl ⟨b, vs, rfl, hd, rks_pair ks hp, fun p ys bs hpn hk hperm => ?_⟩)
          obtain ⟨ds', e1, e2⟩ := rvs_perm (rks_keys ks hk) hperm
          exact hQ _ _ (new_lst r e2 (q ds' e1) p hpn)
        · obtain ⟨b, vs, rfl, hd, ks⟩ := dct_of r a e
          refine .inr (.inr ⟨b, vs, rfl, hd, rks_SI ks hp, fun p ys bs hpn hk hperm => ?_⟩)
          obtain ⟨ds', e1, e2⟩ := rvs_perm (rks_keys ks hk) hperm
          exact hQ _ _ (new_lst r e2 (q ds' e1) p hpn)⟩
end
end DL
namespace DL
open PySem PySem.Spec PyProof.Rows L2
theorem meets_enumerate_newT (l : Addr) (items : Array Value) :
    Meets (Builtin.«enumerate.__new__» ⟨[.type "enumerate", .ref l], []⟩) (fun _ R s => s.heap.IsTuple l items ∧
      R (.ok (.ret (.ref (s.heap.push { cls := .type "tuple_iterator", data := .fields #[.ref l, .int 0 0] }).objs.size)))
        { s with heap := (s.heap.push { cls := .type "tuple_iterator", data := .fields #[.ref l, .int 0 0] }).push { cls := .type "enumerate", data := .fields #[.none, .bool false, .ref s.heap.objs.size, rawInt 0, .none, .none] } }) :=
  .of_wp fun prog w A R s h => by
    obtain ⟨hp, g, d, tk, os⟩ := s; obtain ⟨hl, h⟩ := h
    have hsub := sub_enumerate
    have hL : Heap.IsTuple (Shared.heap ⟨hp, g, d, tk, os⟩) l items := hl
    wp_walk
    refine wpAny_stack_any fun st => wpAny_pure ?_
    split
    · rename_i c _ _ _ _ _
      cases (c == Value.type "enumerate")
      · wp_walk using wpAny_pyIter_tuple hL
        exact ⟨_, rfl, h⟩
      · wp_walk using wpAny_pyIter_tuple hL
        exact ⟨_, rfl, h⟩
    · wp_walk using wpAny_pyIter_tuple hL
      exact ⟨_, rfl, h⟩
section
variable {prog : Program} {w : World} {A : Around} {E : Value → Shared → Prop} {s : Shared}
theorem call_enumerate_tuple {l : Addr} {items : Array Value} {Q : Value → Shared → Prop} (hL : s.heap.IsTuple l items)
    (h : ∀ h', IsEnum h' (s.heap.objs.size + 1) s.heap.objs.size 0 .none → h'.IsTupleIter s.heap.objs.size l 0 → h'.objs.size = s.heap.objs.size + 2 →
      (∀ b o, s.heap.get? b = some o → h'.get? b = some o) → Q (.ref (s.heap.objs.size + 1)) { s with heap := h' }) :
    wpAny (model prog w) A (call (.type "enumerate") [.ref l]) Q E s := by
  refine callType_new F.called_enumerate (by decide) (F.typeCall_enumerate_1 _) (F.newCall_enumerate_1 _) (fun obj => F.args_object_init_2 obj _) F.entry_enumerate_new
    (meets_enumerate_newT l items) ⟨hL, ?_⟩
  have hz : (s.heap.push { cls := .type "tuple_iterator", data := .fields #[.ref l, .int 0 0] }).objs.size = s.heap.objs.size + 1 := Heap.size_push ..
  show _ ∧ _
  rw [hz]
  have he : IsEnum ((s.heap.push { cls := .type "tuple_iterator", data := .fields #[.ref l, .int 0 0] }).push
      { cls := .type "enumerate", data := .fields #[.none, .bool false, .ref s.heap.objs.size, rawInt 0, .none, .none] }) (s.heap.objs.size + 1) s.heap.objs.size 0 .none := by
    have := Heap.get?_push_size (s.heap.push { cls := .type "tuple_iterator", data := .fields #[.ref l, .int 0 0] })
      (o := { cls := .type "enumerate", data := .fields #[.none, .bool false, .ref s.heap.objs.size, rawInt 0, .none, .none] }) rfl
    rw [hz] at this; exact this
  refine ⟨⟨_, he, rfl⟩, h _ he ⟨_, Heap.get?_push_of_some _ (Heap.get?_push_size _ rfl), rfl, rfl⟩ (by rw [Heap.size_push, hz]) fun b o x => Heap.get?_push_of_some _ (Heap.get?_push_of_some _ x)⟩
theorem pyNext_enumT_end {e it l : Addr} {i : Nat} {items : Array Value} {old : Value} {Q : Option Value → Shared → Prop} (hh : A.handled = none)
    (he : IsEnum s.heap e it i old) (hit : s.heap.IsTupleIter it l i) (hl : s.heap.IsTuple l items) (hx : items[i]? = none)
    (hQ : ∀ h', Heap.ExtBut it s.heap h' → Q none { s with heap := h' }) : wpAny (model prog w) A (pyNext (.ref e)) Q E s := by
  have hT : s.TypeIs (.ref e) "enumerate" := ⟨_, he, rfl⟩
  unfold pyNext
  refine wpAny_bind (wpAny_attempt (wpAny_callSpecial?_slot (name := Str.ofString "__next__") hT F.slot_enumerate_next
    (wpAny_call_entry F.slot_enumerate_next hT F.entry_enumerate_next ?_ (F.args_enumerate_next_1 _))))
  show wpAny _ _ (field (.ref e) 2 >>= _) _ _ _
  refine wpAny_bind (wpAny_field he rfl (x := .ref it) rfl ?_)
  refine wpAny_bind (RZ.nextOf_tuple_end hh hit hl hx fun h' x he' hx' => ?_)
  obtain ⟨o, ho, hc⟩ := hx'
  refine wpAny_bind (wpAny_isInstance (T := "StopIteration") (b := true) ⟨o, ho, hc⟩ isSubtype_stop ?_)
  exact wpAny_pure (hQ _ he')
end
/-- the tuple at a, each item in a new pair -/
noncomputable def IteT (K : PySem.W.Frag) (a : Addr) : It :=
  ⟨fun i H => ∃ (xs : List V) (x : V), SqT K H a xs ∧ xs[i]? = some x, fun i H v H' => ∃ T x, v = .ref T ∧ H T = none ∧ H' = upd H T (.tup [.int (i : Nat), x]) ∧ ∀ xs, SqT K H a xs → xs[i]? = some x, fun i H => ∃ xs : List V, SqT K H a xs ∧ xs.length ≤ i⟩
theorem turn_enumT {P : Program} {w : World} {K : PySem.W.Frag} {elts : List Expr} {kk : Nat} {tpos : Pos} (a e it : Addr) (hae : a ≠ e) (hai : a ≠ it) :
    Turn P w K (.Tuple elts kk tpos) (IteT K a) [e, it] e (fun i h => (∃ old, IsEnum h e it ((i : Nat) : Int) old) ∧ h.IsTupleIter it a i ∧ e ≠ it) where
  mem := by simp
  obj := fun i h st b hb => by
    obtain ⟨⟨old, he⟩, ⟨o, ho, hc, hd⟩, _⟩ := st
    have e' : b = e ∨ b = it := by simpa using hb
    rcases e' with z | z
    · rw [z]; exact ⟨_, he, fun v q => nomatch q⟩
    · rw [z]; exact ⟨o, ho, fun v q => by rw [hd] at q; cases q⟩
  keep := fun i h h' st k => let ⟨⟨old, he⟩, hi, hne⟩ := st; ⟨⟨old, k e (by simp) _ he⟩, hi.at fun o q => k it (by simp) o q, hne⟩
  item := by
    intro X hP hw hK hc i pins s σ H E I hf st hg
    subst hP hw hK
    obtain ⟨⟨old, he⟩, hit, hne⟩ := st
    obtain ⟨xs, x, hq, hx⟩ := hg
    obtain ⟨its, rv, p, hz⟩ := I.tuple hq
    obtain ⟨u, hu, ru⟩ := rv.get hx
    have hul : i < its.toArray.size := by simpa using (List.getElem?_eq_some_iff.mp hu).1
    have hel : e < s.heap.objs.size := Heap.lt_size he
    have hil : it < s.heap.objs.size := by obtain ⟨_, q, _⟩ := hit; exact Heap.lt_size q
    refine wpAny_pyNext_enum_itemD (Draws.tuple (A := X.A.in1) (show X.A.in1.handled = none from I.ok.hd hc) it a hai its.toArray) he ⟨hit, p⟩ hul hne (by simp [hne, Ne.symm hae]) fun y h' tk hy ho hst hT hsz hk => ?_
    have hyu : y = u := Option.some.inj (hy.symm.trans (by simpa using hu))
    subst hyu
    refine ⟨_, rfl, wpAny_letOwnedTupleGo_enum (s := { s with heap := h', toks := tk + 1 }) ho fun h'' he' sb => ?_⟩
    have hT2 : h''.get? s.heap.objs.size = some { cls := .type "tuple", data := .seq #[.int i tk, y] } := (sb.2 _ (Nat.ne_of_gt hel)).trans hT
    have new : ObjOk X.prog X.w (upd H s.heap.objs.size (.tup [.int (i : Nat), x])) h'' s.heap.objs.size (.tup [.int (i : Nat), x]) :=
      ⟨by show 2 ≤ sizeLine; decide, [.int i tk, y], .cons ⟨_, rfl⟩ (.cons ru .nil), ⟨_, hT2, rfl, _, rfl⟩⟩
    have I1 : Inv X pins σ (upd H s.heap.objs.size (.tup [.int (i : Nat), x])) { s with heap := h'', toks := tk + 1 } :=
      I.turnedNew (ch := [e, it]) (fun b ob hb q => (sb.2 b (fun z => hb (by simp [z]))).trans (hk b ob (fun z => hb (by simp [z])) (fun z => hb (by simp [z])) q)) hf (Nat.le_refl _) new
    refine ⟨.ref s.heap.objs.size, _, I1, rfl, ⟨_, x, rfl, I.hok.fresh (Nat.le_refl _), rfl, fun ys hy => by rw [I.tuple_inj hy hq]; exact hx⟩, ⟨⟨y, ?_⟩, hst.1.at fun o q => (sb.2 it (Ne.symm hne)).trans q, hne⟩, fun b hb => ?_⟩
    · have e1 : ((i + 1 : Nat) : Int) = (i : Int) + 1 := by omega
      rw [e1]; exact he'
    · have hb' : b < s.heap.objs.size := by
        have e' : b = e ∨ b = it := by simpa using hb
        rcases e' with z | z
        · rw [z]; exact hel
        · rw [z]; exact hil
      rw [upd_ne (Nat.ne_of_lt hb')]
      exact (hf b hb).1
  done := by
    intro X hP hw hK hc i pins s σ H E I hf st hg
    subst hP hw hK
    obtain ⟨⟨old, he⟩, hit, hne⟩ := st
    obtain ⟨xs, hq, hx⟩ := hg
    obtain ⟨its, rv, p, hz⟩ := I.tuple hq
    obtain ⟨f0, f1, f2, f3, f4, f5⟩ := hf it (by simp)
    have hl := rv.length
    exact pyNext_enumT_end (I.ok.hd hc) he hit (show s.heap.IsTuple a its.toArray from p) (by simp; omega) fun h' eb => ⟨rfl, I.turned (t' := s.toks) (fun b o hb q => eb b o hb q) f0 f1 f3 f4 f5⟩
  self := fun A i s Q E st h => let ⟨⟨_, he⟩, _⟩ := st; wpAny_pyIter_enum he h
noncomputable def iEnumT (K : PySem.W.Frag) (ta : TA) : TI := fun σ H R => ta σ H fun vs H1 => ∃ a xs, vs = [.ref a] ∧ ((SqL K H1 a xs ∧ R (Ite K a) H1) ∨ (SqT K H1 a xs ∧ R (IteT K a) H1))
theorem pi_enumA {X : Cx} {e : Expr} {ta : TA} {p pos tpos : Pos} {elts : List Expr} {kk : Nat} (hg : Gl X "enumerate") (hm : X.mg "enumerate" = none) (ha : PA X [e] ta) (hs : starEach [e] X.env = [(false, eval e X.env)] := by rfl) :
    PI X (.Tuple elts kk tpos) (.Call (.Name "enumerate" p) [e] [] pos) (iEnumT X.K ta) := by
  refine ⟨fun pins s σ H R I h => ?_⟩
  refine Call_ (ld_blt I hg hm boot_enumerate (PyProof.Rows.callWith_type1 (thn (ha.run pos pins s σ H _ I h) fun us s1 ⟨vs, H1, I1, r1, q1⟩ => ?_) hs rfl))
  obtain ⟨a, xs, ex, q⟩ := q1
  subst ex
  cases r1 with
  | cons r rr =>
    cases rr
    cases r
    have fr : ∀ b ∈ [s1.heap.objs.size + 1, s1.heap.objs.size], FpOk X pins H1 b := fun b hb => by
      have e' : b = s1.heap.objs.size + 1 ∨ b = s1.heap.objs.size := by simpa using hb
      have hle : s1.heap.objs.size ≤ b := by
        rcases e' with z | z
        · rw [z]; exact Nat.le_add_right _ _
        · rw [z]; exact Nat.le_refl _
      exact I1.fpOk hle (I1.hok.fresh hle)
    rcases q with ⟨hq, q⟩ | ⟨hq, q⟩
    · obtain ⟨its, rv, p', hz⟩ := I1.list hq
      refine call_enumerate_list p'.isList fun h' he hit hsz hk => wpAny_pyIter_enum he ?_
      have I2 : Inv X pins σ H1 { s1 with heap := h' } := I1.kept (t' := s1.toks) hk
      exact ⟨s1.heap.objs.size + 1, [s1.heap.objs.size + 1, s1.heap.objs.size], _, _, H1, rfl, I2, turn_enum a (s1.heap.objs.size + 1) s1.heap.objs.size, ⟨⟨.none, he⟩, hit, Nat.succ_ne_self _⟩, fr, q⟩
    · obtain ⟨its, rv, p', hz⟩ := I1.tuple hq
      obtain ⟨o1, ho1, _⟩ := id p'
      have hlt := Heap.lt_size ho1
      refine call_enumerate_tuple (show s1.heap.IsTuple a its.toArray from p') fun h' he hit hsz hk => wpAny_pyIter_enum he ?_
      have I2 : Inv X pins σ H1 { s1 with heap := h' } := I1.kept (t' := s1.toks) hk
      exact ⟨s1.heap.objs.size + 1, [s1.heap.objs.size + 1, s1.heap.objs.size], _, _, H1, rfl, I2, turn_enumT a (s1.heap.objs.size + 1) s1.heap.objs.size (Nat.ne_of_lt (Nat.lt_succ_of_lt hlt)) (Nat.ne_of_lt hlt), ⟨⟨.none, he⟩, hit, Nat.succ_ne_self _⟩, fr, q⟩
/-- a tuple (true) or a list (false) -/
noncomputable def SqA (K : PySem.W.Frag) (k : Bool) (H : Hp) (a : Addr) (xs : List V) : Prop := if k = true then SqT K H a xs else SqL K H a xs
noncomputable def IsSA (k : Bool) (h : Heap) (a : Addr) (its : Array Value) : Prop := if k = true then h.IsTuple a its else h.IsList a its
noncomputable def IsIA (k : Bool) (h : Heap) (it a : Addr) (i : Nat) : Prop := if k = true then h.IsTupleIter it a i else h.IsListIter it a i
theorem IsIA.at {k : Bool} {h h' : Heap} {it a : Addr} {i : Nat} (x : IsIA k h it a i) (e : ∀ o, h.get? it = some o → h'.get? it = some o) : IsIA k h' it a i := by
  cases k with
  | true => exact Heap.IsTupleIter.at (show h.IsTupleIter it a i from x) e
  | false => exact Heap.IsListIter.at (show h.IsListIter it a i from x) e
theorem IsIA.obj {k : Bool} {h : Heap} {it a : Addr} {i : Nat} (x : IsIA k h it a i) : ∃ o, h.get? it = some o ∧ ∀ v, o.data ≠ .cell v := by
  cases k with
  | true => obtain ⟨o, e, _, d⟩ := (show h.IsTupleIter it a i from x); exact ⟨o, e, fun v q => by rw [d] at q; cases q⟩
  | false => obtain ⟨o, e, _, d⟩ := (show h.IsListIter it a i from x); exact ⟨o, e, fun v q => by rw [d] at q; cases q⟩
theorem inv_A {X : Cx} {pins : List (Addr × Obj)} {σ : L2.St} {H : Hp} {s : Shared} {k : Bool} {a : Addr} {xs : List V} (I : Inv X pins σ H s) (h : SqA X.K k H a xs) : ∃ its : List Value, Vals xs its ∧ IsSA k s.heap a its.toArray := by
  cases k with
  | true => obtain ⟨its, rv, p, _⟩ := I.tuple (show SqT X.K H a xs from h); exact ⟨its, rv, p⟩
  | false => obtain ⟨its, rv, p, _⟩ := I.list (show SqL X.K H a xs from h); exact ⟨its, rv, p.isList⟩
noncomputable def itC (k : Bool) : String := if k then "tuple_iterator" else "list_iterator"
noncomputable abbrev zmH1 (k1 : Bool) (h : Heap) (l1 : Addr) : Heap := h.push { cls := .type (itC k1), data := .fields #[.ref l1, .int 0 0] }
noncomputable abbrev zmH2 (k1 k2 : Bool) (h : Heap) (l1 l2 : Addr) : Heap := (zmH1 k1 h l1).push { cls := .type (itC k2), data := .fields #[.ref l2, .int 0 0] }
noncomputable abbrev zmH3 (k1 k2 : Bool) (h : Heap) (l1 l2 : Addr) : Heap := (zmH2 k1 k2 h l1 l2).push { cls := .type "tuple", data := .seq #[.ref h.objs.size, .ref (zmH1 k1 h l1).objs.size] }
noncomputable abbrev zmH4 (k1 k2 : Bool) (h : Heap) (l1 l2 : Addr) : Heap := (zmH3 k1 k2 h l1 l2).push { cls := .type "tuple", data := .seq #[.none, .none] }
noncomputable abbrev zmH5 (k1 k2 : Bool) (h : Heap) (l1 l2 : Addr) : Heap := (zmH4 k1 k2 h l1 l2).push { cls := .type "zip", data := .fields #[.none, .bool false, .bool false, .ref (zmH2 k1 k2 h l1 l2).objs.size, .ref (zmH3 k1 k2 h l1 l2).objs.size] }
noncomputable abbrev zmTLH1 (h : Heap) (l1 : Addr) : Heap := h.push { cls := .type "tuple_iterator", data := .fields #[.ref l1, .int 0 0] }
noncomputable abbrev zmTLH2 (h : Heap) (l1 l2 : Addr) : Heap := (zmTLH1 h l1).push { cls := .type "list_iterator", data := .fields #[.ref l2, .int 0 0] }
noncomputable abbrev zmTLH3 (h : Heap) (l1 l2 : Addr) : Heap := (zmTLH2 h l1 l2).push { cls := .type "tuple", data := .seq #[.ref h.objs.size, .ref (zmTLH1 h l1).objs.size] }
noncomputable abbrev zmTLH4 (h : Heap) (l1 l2 : Addr) : Heap := (zmTLH3 h l1 l2).push { cls := .type "tuple", data := .seq #[.none, .none] }
noncomputable abbrev zmTLH5 (h : Heap) (l1 l2 : Addr) : Heap := (zmTLH4 h l1 l2).push { cls := .type "zip", data := .fields #[.none, .bool false, .bool false, .ref (zmTLH2 h l1 l2).objs.size, .ref (zmTLH3 h l1 l2).objs.size] }
noncomputable abbrev zmLTH1 (h : Heap) (l1 : Addr) : Heap := h.push { cls := .type "list_iterator", data := .fields #[.ref l1, .int 0 0] }
noncomputable abbrev zmLTH2 (h : Heap) (l1 l2 : Addr) : Heap := (zmLTH1 h l1).push { cls := .type "tuple_iterator", data := .fields #[.ref l2, .int 0 0] }
noncomputable abbrev zmLTH3 (h : Heap) (l1 l2 : Addr) : Heap := (zmLTH2 h l1 l2).push { cls := .type "tuple", data := .seq #[.ref h.objs.size, .ref (zmLTH1 h l1).objs.size] }
noncomputable abbrev zmLTH4 (h : Heap) (l1 l2 : Addr) : Heap := (zmLTH3 h l1 l2).push { cls := .type "tuple", data := .seq #[.none, .none] }
noncomputable abbrev zmLTH5 (h : Heap) (l1 l2 : Addr) : Heap := (zmLTH4 h l1 l2).push { cls := .type "zip", data := .fields #[.none, .bool false, .bool false, .ref (zmLTH2 h l1 l2).objs.size, .ref (zmLTH3 h l1 l2).objs.size] }
set_option maxHeartbeats 1000000 in
theorem meets_zipTL_new (l1 l2 : Addr) (xs ys : Array Value) :
    Meets (Builtin.«zip.__new__» ⟨[.type "zip", .ref l1, .ref l2], []⟩) (fun _ R s => s.heap.IsTuple l1 xs ∧ s.heap.IsList l2 ys ∧
      R (.ok (.ret (.ref (zmTLH4 s.heap l1 l2).objs.size))) { s with heap := zmTLH5 s.heap l1 l2 }) :=
  .of_wp fun prog w A R s h => by
    obtain ⟨hp, g, d, tk, os⟩ := s; obtain ⟨hl1, hl2, h⟩ := h
    have hsub := sub_zip
    have hL1 : Heap.IsTuple (Shared.heap ⟨hp, g, d, tk, os⟩) l1 xs := hl1
    have hL2 : Heap.IsList (Shared.heap ⟨hp.push { cls := .type "tuple_iterator", data := .fields #[.ref l1, .int 0 0] }, g, d, tk, os⟩) l2 ys := Heap.IsList.push hl2 _
    wp_walk using wpAny_pyIter_tuple hL1, wpAny_pyIter_list hL2
    exact ⟨_, rfl, h⟩
set_option maxHeartbeats 1000000 in
theorem meets_zipLT_new (l1 l2 : Addr) (xs ys : Array Value) :
    Meets (Builtin.«zip.__new__» ⟨[.type "zip", .ref l1, .ref l2], []⟩) (fun _ R s => s.heap.IsList l1 xs ∧ s.heap.IsTuple l2 ys ∧
      R (.ok (.ret (.ref (zmLTH4 s.heap l1 l2).objs.size))) { s with heap := zmLTH5 s.heap l1 l2 }) :=
  .of_wp fun prog w A R s h => by
    obtain ⟨hp, g, d, tk, os⟩ := s; obtain ⟨hl1, hl2, h⟩ := h
    have hsub := sub_zip
    have hL1 : Heap.IsList (Shared.heap ⟨hp, g, d, tk, os⟩) l1 xs := hl1
    have hL2 : Heap.IsTuple (Shared.heap ⟨hp.push { cls := .type "list_iterator", data := .fields #[.ref l1, .int 0 0] }, g, d, tk, os⟩) l2 ys := Heap.IsTuple.push hl2 _
    wp_walk using wpAny_pyIter_list hL1, wpAny_pyIter_tuple hL2
    exact ⟨_, rfl, h⟩
theorem meets_zipM_new (k1 k2 : Bool) (l1 l2 : Addr) (xs ys : Array Value) :
    Meets (Builtin.«zip.__new__» ⟨[.type "zip", .ref l1, .ref l2], []⟩) (fun _ R s => IsSA k1 s.heap l1 xs ∧ IsSA k2 s.heap l2 ys ∧
      R (.ok (.ret (.ref (zmH4 k1 k2 s.heap l1 l2).objs.size))) { s with heap := zmH5 k1 k2 s.heap l1 l2 }) := by
  cases k1 <;> cases k2
  · exact meets_zip_new l1 l2 xs ys
  · exact meets_zipLT_new l1 l2 xs ys
  · exact meets_zipTL_new l1 l2 xs ys
  · exact RZ.meets_zipT_new l1 l2 xs ys
theorem call_zipM {prog : Program} {w : World} {A : Around} {E : Value → Shared → Prop} {s : Shared} {k1 k2 : Bool} {l1 l2 : Addr} {xs ys : Array Value} {Q : Value → Shared → Prop} (hl1 : IsSA k1 s.heap l1 xs) (hl2 : IsSA k2 s.heap l2 ys)
    (h : ∀ h', IsZip h' (s.heap.objs.size + 4) (s.heap.objs.size + 2) (s.heap.objs.size + 3) .none → IsPair h' (s.heap.objs.size + 2) (.ref s.heap.objs.size) (.ref (s.heap.objs.size + 1)) →
      IsPair h' (s.heap.objs.size + 3) .none .none → IsIA k1 h' s.heap.objs.size l1 0 → IsIA k2 h' (s.heap.objs.size + 1) l2 0 → h'.objs.size = s.heap.objs.size + 5 →
      (∀ c o, s.heap.get? c = some o → h'.get? c = some o) → Q (.ref (s.heap.objs.size + 4)) { s with heap := h' }) :
    wpAny (model prog w) A (call (.type "zip") [.ref l1, .ref l2]) Q E s := by
  refine callType_new F.called_zip (by decide) (F.typeCall_zip_2 _ _) (F.newCall_zip_2 _ _) (fun obj => F.args_object_init_3 obj _ _) F.entry_zip_new
    (meets_zipM_new k1 k2 l1 l2 xs ys) ⟨hl1, hl2, ?_⟩
  have z1 : (zmH1 k1 s.heap l1).objs.size = s.heap.objs.size + 1 := Heap.size_push ..
  have z2 : (zmH2 k1 k2 s.heap l1 l2).objs.size = s.heap.objs.size + 2 := by rw [Heap.size_push, z1]
  have z3 : (zmH3 k1 k2 s.heap l1 l2).objs.size = s.heap.objs.size + 3 := by rw [Heap.size_push, z2]
  have z4 : (zmH4 k1 k2 s.heap l1 l2).objs.size = s.heap.objs.size + 4 := by rw [Heap.size_push, z3]
  have z5 : (zmH5 k1 k2 s.heap l1 l2).objs.size = s.heap.objs.size + 5 := by rw [Heap.size_push, z4]
  have g5 : (zmH5 k1 k2 s.heap l1 l2).get? (zmH4 k1 k2 s.heap l1 l2).objs.size = some _ := Heap.get?_push_size _ rfl
  have g4 : (zmH5 k1 k2 s.heap l1 l2).get? (zmH3 k1 k2 s.heap l1 l2).objs.size = some _ := Heap.get?_push_of_some _ (Heap.get?_push_size _ rfl)
  have g3 : (zmH5 k1 k2 s.heap l1 l2).get? (zmH2 k1 k2 s.heap l1 l2).objs.size = some _ := Heap.get?_push_of_some _ (Heap.get?_push_of_some _ (Heap.get?_push_size _ rfl))
  have g2 : (zmH5 k1 k2 s.heap l1 l2).get? (zmH1 k1 s.heap l1).objs.size = some _ := Heap.get?_push_of_some _ (Heap.get?_push_of_some _ (Heap.get?_push_of_some _ (Heap.get?_push_size _ rfl)))
  have g1 : (zmH5 k1 k2 s.heap l1 l2).get? s.heap.objs.size = some _ := Heap.get?_push_of_some _ (Heap.get?_push_of_some _ (Heap.get?_push_of_some _ (Heap.get?_push_of_some _ (Heap.get?_push_size _ rfl))))
  show _ ∧ _
  rw [z2, z3, z4] at g5
  rw [z1, z2] at g3
  rw [z3] at g4
  rw [z1] at g2
  rw [z4]
  refine ⟨⟨_, g5, rfl⟩, h _ g5 g3 g4 ?_ ?_ z5 fun c o x =>
    Heap.get?_push_of_some _ (Heap.get?_push_of_some _ (Heap.get?_push_of_some _ (Heap.get?_push_of_some _ (Heap.get?_push_of_some _ x))))⟩
  · cases k1
    · exact ⟨_, g1, rfl, rfl⟩
    · exact ⟨_, g1, rfl, rfl⟩
  · cases k2
    · exact ⟨_, g2, rfl, rfl⟩
    · exact ⟨_, g2, rfl, rfl⟩
end DL
set_option maxHeartbeats 4000000
namespace DL
open PySem PySem.Spec PyProof.Rows L2
end DL
set_option maxHeartbeats 4000000
namespace DL
open PySem PySem.Spec PyProof.Rows L2
theorem zip_no_len : typeLookup (.type "zip") "__len__" = pure none := by rw [typeLookup_type, builtinLookup_eq_fast]; kernel_rfl
theorem zip_no_hint : typeLookup (.type "zip") "__length_hint__" = pure none := by rw [typeLookup_type, builtinLookup_eq_fast]; kernel_rfl
/-- a zip amid its turns, its pairs held -/
noncomputable def ZilSt (h : Heap) (z TI TO i1 i2 l1 l2 S : Addr) (i : Nat) (xs ys : Array Value) : Prop :=
  IsPair h TI (.ref i1) (.ref i2) ∧ h.IsListIter i1 l1 i ∧ h.IsListIter i2 l2 i ∧ h.IsList l1 xs ∧ h.IsList l2 ys ∧
    ((IsZip h z TI TO .none ∧ ∃ a b, IsPair h TO a b) ∨ ∃ T f oT, IsZipHeld h z TI TO T f ∧ h.get? T = some oT ∧ T ≠ z ∧ T ≠ i1 ∧ T ≠ i2 ∧ T ≠ S)
structure ZilOff (z TI TO i1 i2 l1 l2 S : Addr) : Prop where
  z : z ≠ S
  TI : TI ≠ S
  TO : TO ≠ S
  i1 : i1 ≠ S
  i2 : i2 ≠ S
  l1 : l1 ≠ S
  l2 : l2 ≠ S
section
variable {prog : Program} {w : World} {A : Around} {E : Value → Shared → Prop} {s : Shared} {z TI TO i1 i2 l1 l2 S : Addr} {i : Nat} {xs ys : Array Value}
theorem ZilSt.keep {h h' : Heap} (O : ZilOff z TI TO i1 i2 l1 l2 S) (st : ZilSt h z TI TO i1 i2 l1 l2 S i xs ys) (hk : ∀ b o, b ≠ S → h.get? b = some o → h'.get? b = some o) : ZilSt h' z TI TO i1 i2 l1 l2 S i xs ys := by
  obtain ⟨hTI, h1, h2, hl1, hl2, hz⟩ := st
  refine ⟨hk _ _ O.TI hTI, h1.at fun o e => hk _ o O.i1 e, h2.at fun o e => hk _ o O.i2 e, hl1.at fun o e => hk _ o O.l1 e, hl2.at fun o e => hk _ o O.l2 e, ?_⟩
  rcases hz with ⟨hz, a, b, hTO⟩ | ⟨T, f, oT, hz, hT, r1, r2, r3, r4⟩
  · exact .inl ⟨hk _ _ O.z hz, a, b, hk _ _ O.TO hTO⟩
  · exact .inr ⟨T, f, oT, hk _ _ O.z hz, hk _ _ r4 hT, r1, r2, r3, r4⟩
theorem zil_item {x y : Value} {Q : Option Value → Shared → Prop} (D : ZipApart z TI TO i1 i2 l1 l2) (st : ZilSt s.heap z TI TO i1 i2 l1 l2 S i xs ys) (hS : S < s.heap.objs.size) (hx : xs[i]? = some x) (hy : ys[i]? = some y)
    (hQ : ∀ h', ZilSt h' z TI TO i1 i2 l1 l2 S (i + 1) xs ys → IsPair h' s.heap.objs.size x y → h'.objs.size = s.heap.objs.size + 1 → (∀ c o, c ≠ z → c ≠ TO → c ≠ i1 → c ≠ i2 → s.heap.get? c = some o → h'.get? c = some o) → Q (some (.ref s.heap.objs.size)) { s with heap := h' }) :
    wpAny (model prog w) A (pyNext (.ref z)) Q E s := by
  obtain ⟨hTI, h1, h2, hl1, hl2, hz⟩ := st
  have lt : ∀ {c o}, s.heap.get? c = some o → s.heap.objs.size ≠ c := fun e => Nat.ne_of_gt (Heap.lt_size e)
  have n1 : s.heap.objs.size ≠ i1 := let ⟨_, e, _⟩ := h1; lt e
  have n2 : s.heap.objs.size ≠ i2 := let ⟨_, e, _⟩ := h2; lt e
  rcases hz with ⟨hz, a, b, hTO⟩ | ⟨T, f, oT, hz, hT, r1, r2, r3, r4⟩
  · refine wpAny_pyNext_zip_item D hz hTI hTO h1 h2 hl1 hl2 hx hy fun h' a1 a2 a3 a4 a5 a6 hk => ?_
    exact hQ h' ⟨hk _ _ D.TIz D.TITO D.TIi1 D.TIi2 hTI, a3, a4, hl1.at fun o e => hk _ o D.l1z D.l1TO D.l1i1 D.l1i2 e, hl2.at fun o e => hk _ o D.l2z D.l2TO D.l2i1 D.l2i2 e,
      .inr ⟨s.heap.objs.size, false, _, a1, a5, lt hz, n1, n2, Nat.ne_of_gt hS⟩⟩ a5 a6 hk
  · refine wpAny_pyNext_zip_item_held D hz hT hTI h1 h2 hl1 hl2 hx hy fun h' a1 a3 a4 a5 a6 hk => ?_
    exact hQ h' ⟨hk _ _ D.TIz D.TIi1 D.TIi2 hTI, a3, a4, hl1.at fun o e => hk _ o D.l1z D.l1i1 D.l1i2 e, hl2.at fun o e => hk _ o D.l2z D.l2i1 D.l2i2 e,
      .inr ⟨T, true, oT, a1, hk _ _ r1 r2 r3 hT, r1, r2, r3, r4⟩⟩ a5 a6 fun c o c1 _ c2 c3 e => hk c o c1 c2 c3 e
theorem zil_done {Q : Option Value → Shared → Prop} (hh : A.handled = none) (D : ZipApart z TI TO i1 i2 l1 l2) (st : ZilSt s.heap z TI TO i1 i2 l1 l2 S i xs ys) (hend : xs[i]? = none ∨ ys[i]? = none)
    (hQ : ∀ h', (∀ c o, c ≠ z → c ≠ TO → c ≠ i1 → c ≠ i2 → s.heap.get? c = some o → h'.get? c = some o) → Q none { s with heap := h' }) : wpAny (model prog w) A (pyNext (.ref z)) Q E s := by
  obtain ⟨hTI, h1, h2, hl1, hl2, hz⟩ := st
  rcases hz with ⟨hz, a, b, hTO⟩ | ⟨T, f, oT, hz, hT, r1, r2, r3, r4⟩
  · exact wpAny_pyNext_zip_end hh D hz hTI hTO h1 h2 hl1 hl2 hend fun h' hk => hQ h' hk
  · exact wpAny_pyNext_zip_end_held hh D hz hT hTI h1 h2 hl1 hl2 hend fun h' hk => hQ h' fun c o c1 _ c2 c3 e => hk c o c1 c2 c3 e
end
/-- the pairs that were laid -/
structure ZilG (xs ys : Array Value) (lo : Addr) (h : Heap) (as : List Addr) : Prop where
  rise : as.Pairwise (· < ·)
  above : ∀ a ∈ as, lo < a
  pairs : ∀ (j : Nat) (a : Addr), as[j]? = some a → ∃ x y, xs[j]? = some x ∧ ys[j]? = some y ∧ IsPair h a x y
theorem ZilG.there {xs ys : Array Value} {lo : Addr} {h : Heap} {as : List Addr} (g : ZilG xs ys lo h as) {a : Addr} (ha : a ∈ as) : a < h.objs.size := by
  obtain ⟨j, hj⟩ := List.mem_iff_getElem?.mp ha
  obtain ⟨_, _, _, _, e⟩ := g.pairs j a hj
  exact Heap.lt_size e
section
variable {prog : Program} {w : World} {A : Around} {E : Value → Shared → Prop} {s : Shared} {R : Result → Shared → Prop} {z TI TO i1 i2 l1 l2 S : Addr} {xs ys : Array Value}
theorem zil_loop (hh : A.handled = none) (D : ZipApart z TI TO i1 i2 l1 l2) (O : ZilOff z TI TO i1 i2 l1 l2 S) (hzS : z < S) (hTS : TO < S) (h1S : i1 < S) (h2S : i2 < S) (hn : min xs.size ys.size ≤ sizeLine) (res : Value) {h₁ : Heap}
    (hR : ∀ h' tk acc c as, (∀ b o, b ≠ S → b ≠ z → b ≠ TO → b ≠ i1 → b ≠ i2 → h₁.get? b = some o → h'.get? b = some o) → h'.get? S = some { cls := .type "list", dict := none, data := .seq acc c, slots := #[] } → as.length = min xs.size ys.size → ZilG xs ys S h' as →
      acc.toList = as.map Value.ref → R (.ok (.ret res)) { s with heap := h', toks := tk }) :
    ∀ (k i : Nat) (h : Heap) (tk c : Nat) (acc : Array Value) (as : List Addr), min xs.size ys.size - i = k → i ≤ min xs.size ys.size → ZilSt h z TI TO i1 i2 l1 l2 S i xs ys → (∀ b o, b ≠ S → b ≠ z → b ≠ TO → b ≠ i1 → b ≠ i2 → h₁.get? b = some o → h.get? b = some o) →
      h.get? S = some { cls := .type "list", dict := none, data := .seq acc c, slots := #[] } → acc.toList = as.map Value.ref → as.length = i → ZilG xs ys S h as →
      codeAny (model prog w) A (.builtin "list.extend.loop" ⟨[.ref S, .ref z, res], []⟩) R { s with heap := h, toks := tk } := by
  intro k
  induction k with
  | zero =>
    intro i h tk c acc as hk hi hst hkeep hS hacc hal hG
    have hin : i = min xs.size ys.size := by omega
    have hend : xs[i]? = none ∨ ys[i]? = none := by
      rcases Nat.le_total xs.size ys.size with q | q
      · exact .inl (Array.getElem?_eq_none (by omega))
      · exact .inr (Array.getElem?_eq_none (by omega))
    refine codeAny_builtin PySem.F.entry_extend_loop ?_
    rw [Around.under_plainId PySem.F.plain_extend_loop _]
    show wpAny _ A.in1 (pyNext (.ref z) >>= _) _ _ _
    refine wpAny_bind (zil_done (s := { s with heap := h, toks := tk }) (A := A.in1) hh D hst hend fun h' he => ?_)
    refine wpAny_pure (hR h' tk acc c as (fun b o h1 h2 h3 h4 h5 e => he b o h2 h3 h4 h5 (hkeep b o h1 h2 h3 h4 h5 e)) (he S _ (Ne.symm O.z) (Ne.symm O.TO) (Ne.symm O.i1) (Ne.symm O.i2) hS) (by omega) ⟨hG.rise, hG.above, fun j a hj => ?_⟩ hacc)
    obtain ⟨x, y, hx, hy, e3⟩ := hG.pairs j a hj
    have hb := hG.above a (List.mem_of_getElem? hj)
    exact ⟨x, y, hx, hy, he a _ (Nat.ne_of_gt (Nat.lt_trans hzS hb)) (Nat.ne_of_gt (Nat.lt_trans hTS hb)) (Nat.ne_of_gt (Nat.lt_trans h1S hb)) (Nat.ne_of_gt (Nat.lt_trans h2S hb)) e3⟩
  | succ k ih =>
    intro i h tk c acc as hk hi hst hkeep hS hacc hal hG
    have hix : i < xs.size := by omega
    have hiy : i < ys.size := by omega
    have ex := Array.getElem?_eq_getElem hix
    have ey := Array.getElem?_eq_getElem hiy
    have hsz : acc.size = i := by rw [← Array.length_toList, hacc, List.length_map, hal]
    refine codeAny_builtin PySem.F.entry_extend_loop ?_
    rw [Around.under_plainId PySem.F.plain_extend_loop _]
    show wpAny _ A.in1 (pyNext (.ref z) >>= _) _ _ _
    refine wpAny_bind (zil_item (s := { s with heap := h, toks := tk }) D hst (Heap.lt_size hS) ex ey fun h' hst' ht hz hkp => ?_)
    dsimp only at ht hz hkp ⊢
    have hS' := hkp S _ (Ne.symm O.z) (Ne.symm O.TO) (Ne.symm O.i1) (Ne.symm O.i2) hS
    have up : ∀ b o, b ≠ S → h'.get? b = some o → (h'.update S (Obj.mapSeq (·.push (Value.ref h.objs.size)))).get? b = some o := fun b o hb e => (Heap.get?_update_other _ _ (Ne.symm hb)).trans e
    have hSl : S < h.objs.size := Heap.lt_size hS
    show wpAny _ A.in1 (updateSeq S (·.push (Value.ref h.objs.size)) >>= _) _ _ _
    refine wpAny_bind ?_
    refine wpAny_updateSeq hS' rfl (wpAny_pure ⟨plainId_quiet PySem.F.plain_extend_loop _, ih (i + 1) _ tk _ (acc.push (Value.ref h.objs.size)) (as ++ [h.objs.size]) (by omega) (by omega) (hst'.keep O up)
      (fun b o h1 h2 h3 h4 h5 e => up b o h1 (hkp b o h2 h3 h4 h5 (hkeep b o h1 h2 h3 h4 h5 e))) (Heap.get?_update_self _ hS' rfl) (by rw [Array.toList_push, hacc, List.map_append]; rfl) (by rw [List.length_append, hal]; rfl) ⟨?_, ?_, ?_⟩⟩) (by rw [hsz]; omega) (by show (acc.push (Value.ref h.objs.size)).size ≤ sizeLine + 1; rw [Array.size_push, hsz]; omega)
    · refine List.pairwise_append.mpr ⟨hG.rise, List.pairwise_singleton _ _, fun a ha b hb => ?_⟩
      rw [List.mem_singleton.mp hb]
      exact hG.there ha
    · intro a ha
      rcases List.mem_append.mp ha with ha | ha
      · exact hG.above a ha
      · rw [List.mem_singleton.mp ha]; exact hSl
    · intro j b hj
      rcases Nat.lt_trichotomy j as.length with h1 | h1 | h1
      · rw [List.getElem?_append_left h1] at hj
        obtain ⟨x, y, hx, hy, e3⟩ := hG.pairs j b hj
        have hb := hG.above b (List.mem_of_getElem? hj)
        exact ⟨x, y, hx, hy, up b _ (Nat.ne_of_gt hb) (hkp b _ (Nat.ne_of_gt (Nat.lt_trans hzS hb)) (Nat.ne_of_gt (Nat.lt_trans hTS hb)) (Nat.ne_of_gt (Nat.lt_trans h1S hb)) (Nat.ne_of_gt (Nat.lt_trans h2S hb)) e3)⟩
      · subst h1
        have hb : h.objs.size = b := by simpa using hj
        subst hb
        exact ⟨_, _, by rw [hal]; exact ex, by rw [hal]; exact ey, up _ _ (Nat.ne_of_gt hSl) ht⟩
      · have hnone : (as ++ [h.objs.size])[j]? = none := List.getElem?_eq_none (by rw [List.length_append, List.length_singleton]; omega)
        rw [hnone] at hj; cases hj
end
/-- list(z), z a zip of two lists that no one has turned -/
theorem zil_call {prog : Program} {w : World} {A : Around} {E : Value → Shared → Prop} {s : Shared} {z TI TO i1 i2 l1 l2 : Addr} {xs ys : Array Value} {Q : Value → Shared → Prop} (hh : A.handled = none) (D : ZipApart z TI TO i1 i2 l1 l2)
    (hz : IsZip s.heap z TI TO .none) (hTI : IsPair s.heap TI (.ref i1) (.ref i2)) (hTO : ∃ a b, IsPair s.heap TO a b) (h1 : s.heap.IsListIter i1 l1 0) (h2 : s.heap.IsListIter i2 l2 0) (hl1 : s.heap.IsList l1 xs) (hl2 : s.heap.IsList l2 ys) (hn : min xs.size ys.size ≤ sizeLine)
    (hQ : ∀ h' tk acc c as, (∀ b o, b ≠ z → b ≠ TO → b ≠ i1 → b ≠ i2 → s.heap.get? b = some o → h'.get? b = some o) → h'.get? s.heap.objs.size = some { cls := .type "list", dict := none, data := .seq acc c, slots := #[] } → as.length = min xs.size ys.size → ZilG xs ys s.heap.objs.size h' as →
      acc.toList = as.map Value.ref → Q (.ref s.heap.objs.size) { s with heap := h', toks := tk }) :
    wpAny (model prog w) A (call (.type "list") [.ref z]) Q E s := by
  refine callType_codes (Q₁ := fun obj s₁ => obj = .ref s.heap.objs.size ∧ s₁ = { s with heap := s.heap.push { cls := .type "list", data := .seq #[] } }) PySem.F.called_list (PySem.F.typeCall_list_1 _) PySem.F.entry_list_init
    (code_list_new _ ⟨rfl, rfl⟩) fun obj s₁ h₁ => ?_
  obtain ⟨rfl, rfl⟩ := h₁
  have hS : (s.heap.push { cls := .type "list", data := .seq #[] }).get? s.heap.objs.size = some { cls := .type "list", data := .seq #[] } := Heap.get?_push_size _ rfl
  have zS := Heap.lt_size hz
  have TS := Heap.lt_size hTI
  have OS : TO < s.heap.objs.size := let ⟨_, _, e⟩ := hTO; Heap.lt_size e
  have S1 : i1 < s.heap.objs.size := let ⟨_, e, _⟩ := h1; Heap.lt_size e
  have S2 : i2 < s.heap.objs.size := let ⟨_, e, _⟩ := h2; Heap.lt_size e
  have L1 : l1 < s.heap.objs.size := let ⟨_, e, _⟩ := hl1; Heap.lt_size e
  have L2 : l2 < s.heap.objs.size := let ⟨_, e, _⟩ := hl2; Heap.lt_size e
  have O : ZilOff z TI TO i1 i2 l1 l2 s.heap.objs.size := ⟨Nat.ne_of_lt zS, Nat.ne_of_lt TS, Nat.ne_of_lt OS, Nat.ne_of_lt S1, Nat.ne_of_lt S2, Nat.ne_of_lt L1, Nat.ne_of_lt L2⟩
  refine ⟨⟨_, hS, rfl⟩, PySem.F.args_list_init_2 _ _, ?_⟩
  show wpAny _ A.in1.in1 (do let old ← Builtin.List.listItems (.ref s.heap.objs.size); Builtin.List.listUpdate (.ref s.heap.objs.size) (fun _ => #[]); letGo old.toList.reverse; Builtin.List.listExtendWith (.ref s.heap.objs.size) (.ref z) .none) _ _ _
  refine wpAny_bind ?_
  unfold Builtin.List.listItems
  refine wpAny_bind (wpAny_seqItems hS rfl (wpAny_pure ?_))
  show wpAny _ A.in1.in1 (updateSeq s.heap.objs.size (fun _ => #[]) >>= fun _ => letGo (#[] : Array Value).toList.reverse >>= fun _ => Builtin.List.listExtendWith (.ref s.heap.objs.size) (.ref z) .none) _ _ _
  refine wpAny_bind (wpAny_updateSeq hS rfl ?_)
  have hS2 := Heap.get?_update_self (Obj.mapSeq (fun _ => (#[] : Array Value))) hS rfl
  refine wpAny_bind (wpAny_letGo ?_)
  unfold Builtin.List.listExtendWith
  have up : ∀ (h : Heap) (f : Obj → Obj), (∀ b o, s.heap.get? b = some o → h.get? b = some o) → ∀ b o, s.heap.get? b = some o → (h.update s.heap.objs.size f).get? b = some o := fun h f q b o e =>
    (Heap.get?_update_other _ _ (Ne.symm (Nat.ne_of_lt (Heap.lt_size e)))).trans (q b o e)
  have k1 : ∀ b o, s.heap.get? b = some o → (s.heap.push { cls := .type "list", data := .seq #[] }).get? b = some o := fun b o e => Heap.get?_push_of_some _ e
  have k2 := up _ (Obj.mapSeq (fun _ => (#[] : Array Value))) k1
  refine wpAny_bind (wpAny_typeOf (T := "zip") ⟨_, k2 _ _ hz, rfl⟩ ?_)
  have q1 : Builtin.List.listSameRef (.ref s.heap.objs.size) (.ref z) = false := by simp [Builtin.List.listSameRef, Ne.symm O.z]
  have q2 : (Value.type "zip" == Value.type "list") = false := by decide
  have q3 : (Value.type "zip" == Value.type "tuple") = false := by decide
  simp only [q1, q2, q3, Bool.or_false, Bool.false_eq_true, if_false]
  refine wpAny_bind (wpAny_pyIter_zip (s := { s with heap := _ }) (k2 _ _ hz) ?_)
  refine wpAny_bind (wpAny_holding ?_)
  unfold Builtin.List.listLengthHint
  refine wpAny_bind (wpAny_specialOf (T := "zip") ⟨_, k2 _ _ hz, rfl⟩ zip_no_len ?_)
  show wpAny _ A.in1.in1 (specialOf (Value.ref z) (Str.ofString "__length_hint__") >>= _) _ _ _
  refine wpAny_bind (wpAny_specialOf (T := "zip") ⟨_, k2 _ _ hz, rfl⟩ zip_no_hint ?_)
  refine wpAny_pure ?_
  show wpAny _ A.in1.in1 (rule "list.extend.makes-room" >>= fun _ => Builtin.List.listTouch (.ref s.heap.objs.size) >>= fun _ =>
    again (.builtin "list.extend.loop" ⟨[.ref s.heap.objs.size, .ref z, .none], []⟩)) _ _ _
  refine wpAny_bind (wpAny_rule ?_)
  refine wpAny_bind ?_
  show wpAny _ A.in1.in1 (updateSeq s.heap.objs.size (·.push .none) >>= fun _ => updateSeq s.heap.objs.size (·.pop)) _ _ _
  refine wpAny_bind (wpAny_updateSeq hS2 rfl ?_)
  have hS3 := Heap.get?_update_self (Obj.mapSeq (·.push Value.none)) hS2 rfl
  refine wpAny_updateSeq (hz := by seq_fits) hS3 rfl ?_
  have hS4 := Heap.get?_update_self (Obj.mapSeq (·.pop)) hS3 rfl
  have k4 := up _ (Obj.mapSeq (·.pop)) (up _ (Obj.mapSeq (·.push Value.none)) k2)
  obtain ⟨ta, tb, hTO⟩ := hTO
  refine wpAny_pure ⟨plainId_quiet PySem.F.plain_extend_loop _, ?_⟩
  exact zil_loop (A := A.in1) (s := s) (h₁ := s.heap) (xs := xs) (ys := ys) hh D O zS OS S1 S2 hn .none (fun h' tk acc c as hk hS' hl hG hacc => ⟨rfl, hQ h' tk acc c as (fun b o b1 b2 b3 b4 e => hk b o (Nat.ne_of_lt (Heap.lt_size e)) b1 b2 b3 b4 e) hS' hl hG hacc⟩)
    (min xs.size ys.size) 0 _ _ _ #[] [] (Nat.sub_zero _) (Nat.zero_le _) ⟨k4 _ _ hTI, h1.at fun o e => k4 _ o e, h2.at fun o e => k4 _ o e, hl1.at fun o e => k4 _ o e, hl2.at fun o e => k4 _ o e, .inl ⟨k4 _ _ hz, ta, tb, k4 _ _ hTO⟩⟩
    (fun b o _ _ _ _ _ e => k4 b o e) hS4 rfl rfl ⟨List.Pairwise.nil, (fun _ ha => nomatch ha), fun j a hj => by simp at hj⟩
/-- pairs laid one behind the other -/
noncomputable def growT : List (V × V) → Hp → (List V → Hp → Prop) → Prop
  | [], H, Q => Q [] H
  | p :: r, H, Q => ∀ q, H q = none → growT r (upd H q (.tup [p.1, p.2])) fun vs H' => Q (.ref q :: vs) H'
theorem grow_take {X : Cx} {pins : List (Addr × Obj)} {σ : L2.St} {s' : Shared} {sz : Nat} (base : ∀ b, sz ≤ b → ∀ H' : Hp, H' b = none → FpOk X pins H' b) :
    ∀ (ps : List (V × V)) (as : List Addr) (H : Hp) (Q : List V → Hp → Prop), Inv X pins σ H s' → as.length = ps.length → as.Pairwise (· < ·) → (∀ a ∈ as, sz ≤ a ∧ H a = none) →
      (∀ (j : Nat) (a : Addr) (p : V × V), as[j]? = some a → ps[j]? = some p → ∃ v w, RelV p.1 v ∧ RelV p.2 w ∧ IsPair s'.heap a v w) → growT ps H Q → ∃ H2, Inv X pins σ H2 s' ∧ Q (as.map V.ref) H2 ∧ ∀ b, b ∉ as → H2 b = H b
  | [], [], H, Q, I, _, _, _, _, h => ⟨H, I, h, fun _ _ => rfl⟩
  | [], _ :: _, _, _, _, hl, _, _, _, _ => by simp at hl
  | _ :: _, [], _, _, _, hl, _, _, _, _ => by simp at hl
  | p :: ps, a :: as, H, Q, I, hl, hp, ha, hpr, h => by
    obtain ⟨v, w, rv, rw', ip⟩ := hpr 0 a p rfl rfl
    obtain ⟨a1, a2⟩ := ha a (List.mem_cons_self ..)
    have I2 : Inv X pins σ (upd H a (.tup [p.1, p.2])) s' := I.take (t' := s'.toks) (h' := s'.heap) (fun b o _ e => e) (base a a1 H a2) ⟨by show 2 ≤ sizeLine; decide, [v, w], .cons rv (.cons rw' .nil), ⟨_, ip, rfl, _, rfl⟩⟩
    rw [List.pairwise_cons] at hp
    obtain ⟨H2, J, q, hk⟩ := grow_take base ps as _ _ I2 (by simpa using hl) hp.2 (fun b hb => ⟨(ha b (List.mem_cons_of_mem _ hb)).1, by rw [upd_ne (Nat.ne_of_gt (hp.1 b hb))]; exact (ha b (List.mem_cons_of_mem _ hb)).2⟩) (fun j b r hj hr => hpr (j + 1) b r (by simpa using hj) (by simpa using hr)) (h a a2)
    exact ⟨H2, J, q, fun b hb => by
      rw [hk b fun z => hb (List.mem_cons_of_mem _ z), upd_ne fun z => hb (by rw [z]; exact List.mem_cons_self ..)]⟩
theorem vals_refs : ∀ as : List Addr, Vals (as.map V.ref) (as.map Value.ref)
  | [] => .nil
  | _ :: as => .cons rfl (vals_refs as)
noncomputable def tListZip (K : PySem.W.Frag) (ta : TA) : TE := fun σ H Q => ta σ H fun vs H1 => ∃ a b xs ys, vs = [.ref a, .ref b] ∧ SqA K false H1 a xs ∧ SqA K false H1 b ys ∧ (xs.zip ys).length ≤ sizeLine ∧ growT (xs.zip ys) H1 fun us H2 => ∀ q, H2 q = none → Q (.ref q) (upd H2 q (.lst us))
theorem pe_listZip {X : Cx} {e e2 : Expr} {ta : TA} {p pos p2 pos2 : Pos} (hc : X.calm = true) (hg : Gl X "list") (hm : X.mg "list" = none) (hgz : Gl X "zip") (hmz : X.mg "zip" = none) (ha : PA X [e, e2] ta)
    (hs : starEach [e, e2] X.env = (false, eval e X.env) :: starEach [e2] X.env := by rfl) (hpl : (backTo pos2 (starEach [e2] X.env)).any (·.1) = false := by rfl)
    (na : starEach [.Call (.Name "zip" p2) [e, e2] [] pos2] X.env = (false, eval (.Call (.Name "zip" p2) [e, e2] [] pos2) X.env) :: starEach [] X.env := by rfl) :
    PE X (.Call (.Name "list" p) [.Call (.Name "zip" p2) [e, e2] [] pos2] [] pos) (tListZip X.K ta) := by
  refine ⟨fun pins s σ H Q I h => ?_⟩
  have inner : wpAny (model X.prog X.w) X.A (eval (.Call (.Name "zip" p2) [e, e2] [] pos2) X.env) (fun x s' => ∃ (s1 : Shared) (h' : Heap) (H1 : Hp) (a b : Addr) (xs ys : List V) (its its2 : List Value), x = .ref (s1.heap.objs.size + 4) ∧ s' = { s1 with heap := h' } ∧ Inv X pins σ H1 s1 ∧ Vals xs its ∧ Vals ys its2 ∧
      s1.heap.IsList a its.toArray ∧ s1.heap.IsList b its2.toArray ∧ IsZip h' (s1.heap.objs.size + 4) (s1.heap.objs.size + 2) (s1.heap.objs.size + 3) .none ∧ IsPair h' (s1.heap.objs.size + 2) (.ref s1.heap.objs.size) (.ref (s1.heap.objs.size + 1)) ∧
      IsPair h' (s1.heap.objs.size + 3) .none .none ∧ h'.IsListIter s1.heap.objs.size a 0 ∧ h'.IsListIter (s1.heap.objs.size + 1) b 0 ∧ h'.objs.size = s1.heap.objs.size + 5 ∧ (∀ c o, s1.heap.get? c = some o → h'.get? c = some o) ∧
      (xs.zip ys).length ≤ sizeLine ∧ growT (xs.zip ys) H1 fun us H2 => ∀ q, H2 q = none → Q (.ref q) (upd H2 q (.lst us))) X.xe s := by
    refine Call_ (ld_blt I hgz hmz PyProof.Rows.boot_zip (PyProof.Rows.callWith_type1 (thn (ha.run pos2 pins s σ H _ I h) fun us s1 ⟨vs, H1, I1, r1, q1⟩ => ?_) hs hpl))
    obtain ⟨a, b, xs, ys, ex, hqx, hqy, hl, q⟩ := q1
    subst ex
    cases r1 with
    | cons r rr =>
      cases rr with
      | cons r' rr =>
        cases rr
        cases r
        cases r'
        obtain ⟨its, rv, p1⟩ := inv_A I1 hqx
        obtain ⟨its2, rv2, p2⟩ := inv_A I1 hqy
        exact call_zipM p1 p2 fun h' hz hTI hTO h1 h2 hsz hk => ⟨s1, h', H1, a, b, xs, ys, its, its2, rfl, rfl, I1, rv, rv2, p1, p2, hz, hTI, hTO, h1, h2, hsz, hk, hl, q⟩
  refine Call_ (ld_blt I hg hm boot_list (PyProof.Rows.callWith_type1 (args_cons (thn inner fun x s2 hx => args_nil ?_) na) na))
  obtain ⟨s1, h', H1, a, b, xs, ys, its, its2, rfl, rfl, I1, rv, rv2, p1, p2, hz, hTI, hTO, h1, h2, hsz, hk, hl, q⟩ := hx
  have n1 := rv.length
  have n2 := rv2.length
  have I2 : Inv X pins σ H1 { s1 with heap := h' } := I1.kept (t' := s1.toks) hk
  have la : a < s1.heap.objs.size := let ⟨_, e, _⟩ := p1; Heap.lt_size e
  have lb : b < s1.heap.objs.size := let ⟨_, e, _⟩ := p2; Heap.lt_size e
  have base : ∀ c, s1.heap.objs.size ≤ c → ∀ H' : Hp, H' c = none → FpOk X pins H' c := fun c hc' H' hn => I1.fpOk hc' hn
  have mn : min its.toArray.size its2.toArray.size = (xs.zip ys).length := by rw [List.length_zip, List.size_toArray, List.size_toArray]; omega
  refine zil_call (s := { s1 with heap := h' }) (xs := its.toArray) (ys := its2.toArray) (I1.ok.hd hc) (PySem.W.ktu_apart s1.heap.objs.size a b la lb) hz hTI ⟨_, _, hTO⟩ h1 h2 (p1.at fun o e => hk _ o e) (p2.at fun o e => hk _ o e) (by rw [mn]; exact hl) fun h3 tk acc c as hk3 hS hal hG hacc => ?_
  dsimp only at hS hG hk3 ⊢
  rw [hsz] at hS hG ⊢
  have I3 : Inv X pins σ H1 { s1 with heap := h3, toks := tk } := Inv.turnedL (s := { s1 with heap := h' }) (h' := h3) (t' := tk) I2 (ch := [s1.heap.objs.size + 4, s1.heap.objs.size + 3, s1.heap.objs.size, s1.heap.objs.size + 1]) (fun d o hb e => hk3 d o (fun z => hb (by simp [z])) (fun z => hb (by simp [z])) (fun z => hb (by simp [z])) (fun z => hb (by simp [z])) e) (fun d hd => by
    have e' : d = s1.heap.objs.size + 4 ∨ d = s1.heap.objs.size + 3 ∨ d = s1.heap.objs.size ∨ d = s1.heap.objs.size + 1 := by simpa using hd
    have hle : s1.heap.objs.size ≤ d := by
      rcases e' with z | z | z | z
      · rw [z]; exact Nat.le_add_right _ _
      · rw [z]; exact Nat.le_add_right _ _
      · rw [z]; exact Nat.le_refl _
      · rw [z]; exact Nat.le_add_right _ _
    exact I1.fpOk hle (I1.hok.fresh hle))
  obtain ⟨H2, J, q2, hkH⟩ := grow_take base (xs.zip ys) as H1 _ I3 (by rw [hal, mn]) hG.rise (fun d hd => by
      have := hG.above d hd
      exact ⟨Nat.le_of_lt (Nat.lt_of_le_of_lt (Nat.le_add_right _ _) this), I1.hok.fresh (Nat.le_of_lt (Nat.lt_of_le_of_lt (Nat.le_add_right _ _) this))⟩) (fun j d r hj hr => by
      obtain ⟨x, y, hx, hy, ip⟩ := hG.pairs j d hj
      rw [List.getElem?_zip_eq_some] at hr
      obtain ⟨w1, hw1, rw1⟩ := rv.get hr.1
      obtain ⟨w2, hw2, rw2⟩ := rv2.get hr.2
      have q1 : w1 = x := Option.some.inj (hw1.symm.trans (by simpa using hx))
      have q2 : w2 = y := Option.some.inj (hw2.symm.trans (by simpa using hy))
      subst q1 q2
      exact ⟨_, _, rw1, rw2, ip⟩) q
  have hSn : s1.heap.objs.size + 5 ∉ as := fun z => Nat.lt_irrefl _ (hG.above _ z)
  have hS0 : H2 (s1.heap.objs.size + 5) = none := by rw [hkH _ hSn]; exact I1.hok.fresh (Nat.le_add_right _ _)
  refine ⟨.ref (s1.heap.objs.size + 5), upd H2 (s1.heap.objs.size + 5) (.lst (as.map V.ref)), J.take (t' := tk) (fun _ _ _ e => e) (base _ (Nat.le_add_right _ _) H2 hS0) ⟨?_, as.map Value.ref, c, vals_refs as, ?_⟩, rfl, q2 _ hS0⟩
  · rw [List.length_map, hal, mn]; exact hl
  · rw [← hacc, Array.toArray_toList]; exact hS
end DL
namespace DL
open PySem PySem.Spec PyProof.Rows L2 PyProof
end DL
namespace DL
open PySem PySem.Spec PyProof.Rows L2 PyProof
end DL
set_option maxHeartbeats 4000000
namespace DL
open PySem PySem.Spec PyProof.Rows L2 RT
end DL
namespace DL
open PySem PySem.Spec PyProof.Rows L2
section
variable {X : Cx} {K : PySem.W.Frag} {η μ : List Addr} {S : DStore} {H : Hp} {tg : Expr}
theorem it_end {pins : List (Addr × Obj)} {σ : L2.St} {H1 : Hp} {s1 : Shared} (I1 : Inv X pins σ H1 s1) : ∀ b ∈ [s1.heap.objs.size], FpOk X pins H1 b := by
  intro b hb
  rw [List.mem_singleton.mp hb]
  exact I1.fpOk (Nat.le_refl _) (I1.hok.fresh (Nat.le_refl _))
theorem it_lst {pins : List (Addr × Obj)} {σ : L2.St} {H1 : Hp} {s1 : Shared} {R : It → Hp → Prop} {E : Value → Shared → Prop} {a : Addr} {xs : List V} (I1 : Inv X pins σ H1 s1) (hq : SqL X.K H1 a xs) (q : R (Itl X.K a) H1) :
    wpAny (model X.prog X.w) X.A (pyIter (.ref a)) (PIE X pins σ tg R) E s1 := by
  obtain ⟨its, rv, p, hz⟩ := I1.list hq
  refine wpAny_pyIter_list p.isList ⟨_, [s1.heap.objs.size], _, _, H1, rfl, ?_, turn_list a _, ?_, it_end I1, q⟩
  · exact I1.kept (t' := s1.toks) fun _ _ e => Heap.get?_push_of_some _ e
  · exact ⟨_, Heap.get?_push_size _ rfl, rfl, rfl⟩
theorem it_tup {pins : List (Addr × Obj)} {σ : L2.St} {H1 : Hp} {s1 : Shared} {R : It → Hp → Prop} {E : Value → Shared → Prop} {a : Addr} {xs : List V} (I1 : Inv X pins σ H1 s1) (hq : SqT X.K H1 a xs) (q : R (Itt X.K a) H1) :
    wpAny (model X.prog X.w) X.A (pyIter (.ref a)) (PIE X pins σ tg R) E s1 := by
  obtain ⟨its, rv, p, hz⟩ := I1.tuple hq
  refine wpAny_pyIter_tuple (show s1.heap.IsTuple a its.toArray from p) ⟨_, [s1.heap.objs.size], _, _, H1, rfl, ?_, turn_tuple a _, ?_, it_end I1, q⟩
  · exact I1.kept (t' := s1.toks) fun _ _ e => Heap.get?_push_of_some _ e
  · exact ⟨_, Heap.get?_push_size _ rfl, rfl, rfl⟩
/-- over a list or a tuple -/
theorem pi_seq {l : Expr} {tl : TE} (hl : PE X l tl) : PI X tg l (fun σ H R => tl σ H fun x H1 => ∃ a xs, x = .ref a ∧ ((SqL X.K H1 a xs ∧ R (Itl X.K a) H1) ∨ (SqT X.K H1 a xs ∧ R (Itt X.K a) H1))) := by
  constructor
  intro pins s σ H R I h
  refine thn (hl.run pins s σ H _ I h) fun v s1 out => ?_
  obtain ⟨x, H1, I1, r1, a, xs, rfl, hq⟩ := out
  cases r1
  rcases hq with ⟨h1, q⟩ | ⟨h1, q⟩
  · exact it_lst I1 h1 q
  · exact it_tup I1 h1 q
theorem jok_list {a : Addr} {items : List D} {I : DStore → Prop} (h : ∀ η' μ' S' H', Ext η μ H η' μ' H' → Rp K η' μ' S' H' → I S' → ∃ vs, SqL K H' a vs ∧ RVs K H' η' μ' items vs) : JOk K η μ H (Itl K a) items I := by
  intro i η' μ' S' H' e r g
  obtain ⟨vs, hs, q⟩ := h η' μ' S' H' e r g
  refine ⟨fun hi => ?_, fun hi _ => ⟨vs, hs, by rw [← q.length]; exact hi⟩⟩
  obtain ⟨v, hv, rv⟩ := q.get (List.getElem?_eq_getElem hi)
  refine ⟨⟨vs, v, hs, hv⟩, fun x H'' hy => ?_⟩
  obtain ⟨rfl, f⟩ := hy
  have : x = v := Option.some.inj ((f vs hs).symm.trans hv)
  subst this
  exact ⟨.refl, r, _, List.getElem?_eq_getElem hi, rv⟩
theorem jok_tup {a : Addr} {items : List D} {I : DStore → Prop} (h : ∀ η' μ' S' H', Ext η μ H η' μ' H' → Rp K η' μ' S' H' → I S' → ∃ vs, SqT K H' a vs ∧ RVs K H' η' μ' items vs) : JOk K η μ H (Itt K a) items I := by
  intro i η' μ' S' H' e r g
  obtain ⟨vs, hs, q⟩ := h η' μ' S' H' e r g
  refine ⟨fun hi => ?_, fun hi _ => ⟨vs, hs, by rw [← q.length]; exact hi⟩⟩
  obtain ⟨v, hv, rv⟩ := q.get (List.getElem?_eq_getElem hi)
  refine ⟨⟨vs, v, hs, hv⟩, fun x H'' hy => ?_⟩
  obtain ⟨rfl, f⟩ := hy
  have : x = v := Option.some.inj ((f vs hs).symm.trans hv)
  subst this
  exact ⟨.refl, r, _, List.getElem?_eq_getElem hi, rv⟩
theorem jok_keys {d : Addr} {o : Obj} {kvs : List (List L2.Key × D)} {vs : List (List L2.Key × V)} (h : H d = some (.frz o (.dT vs))) (q : RKs K H η μ kvs vs) : JOk K η μ H (Itkt d o vs) (kvs.map fun p => D.tup (p.1.map keyD)) (fun _ => True) := by
  intro i η' μ' S' H' e r _
  have hd := e.frz _ _ _ h
  have hl := q.length
  refine ⟨fun hi => ?_, fun h1 h2 => ?_⟩
  · rw [List.length_map] at hi
    refine ⟨⟨hd, by omega⟩, fun x H'' hy => ?_⟩
    obtain ⟨rfl, k, v, p, h1, rfl, h3⟩ := hy
    refine ⟨.refl, r, D.tup (k.map keyD), ?_, .tup (.inl (.inl h3)) (keyD_rv k)⟩
    have hk := congrArg (fun l => l[i]?) q.keys
    simp only [List.getElem?_map, h1, Option.map_some, Option.map_eq_some_iff] at hk
    obtain ⟨⟨k', d'⟩, h4, h5⟩ := hk
    simp only at h5
    subst h5
    rw [List.getElem?_map, h4]; rfl
  · rw [List.length_map] at h1
    exact ⟨hd, by omega⟩
theorem jok_items {d : Addr} {o : Obj} {kvs : List (List L2.Key × D)} {vs : List (List L2.Key × V)} (h : H d = some (.frz o (.dT vs))) (q : RKs K H η μ kvs vs) : JOk K η μ H (Itit d o vs) (kvs.map fun p => D.tup [D.tup (p.1.map keyD), p.2]) (fun _ => True) := by
  intro i η' μ' S' H' e r _
  have hd := e.frz _ _ _ h
  have hl := q.length
  refine ⟨fun hi => ?_, fun h1 h2 => ?_⟩
  · rw [List.length_map] at hi
    refine ⟨⟨hd, by omega⟩, fun x H'' hy => ?_⟩
    obtain ⟨T, k, v, p, h1, h3, rfl, hT, rfl⟩ := hy
    have g := grow_new (o := .tup [.ref p, v]) r hT
    obtain ⟨dv, h4, rv⟩ := (q.ext e).get h1
    refine ⟨g, rp_new r hT, D.tup [D.tup (k.map keyD), dv], ?_, ?_⟩
    · rw [List.getElem?_map, h4]; rfl
    · exact .tup (.inl (.inl upd_same)) (.cons (.tup (.inl (.inl (g.tup _ _ h3))) (keyD_rv k)) (.cons (rv.ext g.ext) .nil))
  · rw [List.length_map] at h1
    exact ⟨hd, by omega⟩
theorem jok_range {lo hi : Int} {n : Nat} (hn : n = (hi - lo).toNat) : JOk K η μ H (Itr lo n) (rangeD lo hi) (fun _ => True) := by
  intro i η' μ' S' H' e r g
  have hl : (rangeD lo hi).length = n := by simp [rangeD, hn]
  refine ⟨fun h => ⟨by show i < n; omega, fun x H'' hy => ?_⟩, fun h _ => by show n ≤ i; omega⟩
  obtain ⟨rfl, rfl⟩ := hy
  refine ⟨.refl, r, _, ?_, .int _⟩
  unfold rangeD
  rw [List.getElem?_map, List.getElem?_range (by omega)]
  rfl
theorem seq_it (r : Rp K η μ S H) {d : D} {v : V} {R : RI} {RJ : It → Hp → Prop} (rv : RV K H η μ d v) (h : itD S d R) (hJ : ∀ J items I, R items I S → JOk K η μ H J items I → RJ J H) :
    ∃ a xs, v = .ref a ∧ ((SqL K H a xs ∧ RJ (Itl K a) H) ∨ (SqT K H a xs ∧ RJ (Itt K a) H)) := by
  cases rv with
  | tup h1 q1 => exact ⟨_, _, rfl, .inr ⟨h1, hJ _ _ _ h (jok_tup fun η' μ' S' H' e _ _ => ⟨_, SqT.ext e h1, q1.ext e⟩)⟩⟩
  | ptup h1 h2 q1 => exact ⟨_, _, rfl, .inr ⟨.inl (.inr ⟨_, h1⟩), hJ _ _ _ h (jok_tup fun η' μ' S' H' e _ _ => ⟨_, SqT.ext e (.inl (.inr ⟨_, h1⟩)), q1.ext e⟩)⟩⟩
  | @lst a xs ds hm hn h1 q1 => exact ⟨_, _, rfl, .inl ⟨.inl (.inl h1), hJ _ _ _ h (jok_list fun η' μ' S' H' e _ _ => ⟨_, .inl (.inl (e.keep _ _ nt_lst h1 hm hn).1), q1.ext e⟩)⟩⟩
  | scr h1 q1 =>
    have hs : ∀ {η' μ' H'}, Ext η μ H η' μ' H' → SqL K H' _ _ := fun e => h1.elim (fun ⟨o, z⟩ => .inl (.inr ⟨o, e.frz _ _ _ z⟩)) fun z => z _
    exact ⟨_, _, rfl, .inl ⟨hs (Ext.refl (η := η) (μ := μ)), hJ _ _ _ h (jok_list fun η' μ' S' H' e _ _ => ⟨_, hs e, q1.ext e⟩)⟩⟩
  | @ref n a h1 =>
    obtain ⟨xs, e1, h⟩ := h
    obtain ⟨b, hb, vs, e2, q2⟩ := r.cell n _ e1
    rw [h1] at hb; cases hb
    refine ⟨_, _, rfl, .inl ⟨.inl (.inl e2), hJ _ _ _ h (jok_list fun η' μ' S' H' e r' g => ?_)⟩⟩
    obtain ⟨c, hc, ws, e3, q3⟩ := r'.cell n _ g
    obtain ⟨m, rfl⟩ := e.pre
    rw [List.getElem?_append_left (List.getElem?_eq_some_iff.mp h1).1, h1] at hc
    cases hc
    exact ⟨ws, .inl (.inl e3), q3⟩
  | _ => exact h.elim
theorem enum_get {xs : List D} {i : Nat} {x : D} (hx : xs[i]? = some x) : (enumD xs)[i]? = some (.tup [.int i, x]) := by
  simp [enumD, List.getElem?_map, List.getElem?_zipIdx, hx]
theorem enum_len {xs : List D} : (enumD xs).length = xs.length := by simp [enumD]
theorem jok_enum {a : Addr} {xs : List D} {I : DStore → Prop} (h : ∀ η' μ' S' H', Ext η μ H η' μ' H' → Rp K η' μ' S' H' → I S' → ∃ vs, SqL K H' a vs ∧ RVs K H' η' μ' xs vs) : JOk K η μ H (Ite K a) (enumD xs) I := by
  intro i η' μ' S' H' e r g
  obtain ⟨vs, h1, q1⟩ := h η' μ' S' H' e r g
  have l1 := q1.length
  rw [enum_len]
  refine ⟨fun hi => ?_, fun hi _ => ⟨vs, h1, by omega⟩⟩
  obtain ⟨v, hv, rv⟩ := q1.get (List.getElem?_eq_getElem hi)
  refine ⟨⟨vs, v, h1, hv⟩, fun x H'' hy => ?_⟩
  obtain ⟨T, v2, rfl, hT, rfl, f1⟩ := hy
  have e1 : v2 = v := Option.some.inj ((f1 vs h1).symm.trans hv)
  subst e1
  exact ⟨grow_new r hT, rp_new r hT, _, enum_get (List.getElem?_eq_getElem hi), rv_new_tup r hT (.cons (.int _) (.cons rv .nil))⟩
theorem jok_rangeC {lo c : Int} {n : Nat} : JOk K η μ H (Itc lo c n) (range3D lo c n) (fun _ => True) := by
  intro i η' μ' S' H' e r g
  have hl : (range3D lo c n).length = n := by simp [range3D]
  refine ⟨fun h => ⟨by show i < n; omega, fun x H'' hy => ?_⟩, fun h _ => by show n ≤ i; omega⟩
  obtain ⟨rfl, rfl⟩ := hy
  refine ⟨.refl, r, _, ?_, .int _⟩
  unfold range3D
  rw [List.getElem?_map, List.getElem?_range (by omega)]
  rfl
theorem jok_enumT {a : Addr} {xs : List D} {I : DStore → Prop} (h : ∀ η' μ' S' H', Ext η μ H η' μ' H' → Rp K η' μ' S' H' → I S' → ∃ vs, SqT K H' a vs ∧ RVs K H' η' μ' xs vs) : JOk K η μ H (IteT K a) (enumD xs) I := by
  intro i η' μ' S' H' e r g
  obtain ⟨vs, h1, q1⟩ := h η' μ' S' H' e r g
  have l1 := q1.length
  rw [enum_len]
  refine ⟨fun hi => ?_, fun hi _ => ⟨vs, h1, by omega⟩⟩
  obtain ⟨v, hv, rv⟩ := q1.get (List.getElem?_eq_getElem hi)
  refine ⟨⟨vs, v, h1, hv⟩, fun x H'' hy => ?_⟩
  obtain ⟨T, v2, rfl, hT, rfl, f1⟩ := hy
  have e1 : v2 = v := Option.some.inj ((f1 vs h1).symm.trans hv)
  subst e1
  exact ⟨grow_new r hT, rp_new r hT, _, enum_get (List.getElem?_eq_getElem hi), rv_new_tup r hT (.cons (.int _) (.cons rv .nil))⟩
theorem enum_it (r : Rp K η μ S H) {x : D} {v : V} {R : RI} {RJ : It → Hp → Prop} (rx : RV K H η μ x v) (h : enumP S x R) (hJ : ∀ J items I, R items I S → JOk K η μ H J items I → RJ J H) :
    ∃ a xs, [v] = [V.ref a] ∧ ((SqL K H a xs ∧ RJ (Ite K a) H) ∨ (SqT K H a xs ∧ RJ (IteT K a) H)) := by
  unfold enumP at h
  split at h
  · cases rx with
    | tup h1 q1 => exact ⟨_, _, rfl, .inr ⟨h1, hJ _ _ _ h (jok_enumT fun η' μ' S' H' e _ _ => ⟨_, SqT.ext e h1, q1.ext e⟩)⟩⟩
  · obtain ⟨xs, e1, h⟩ := h
    obtain ⟨a, vs, rfl, ha, qa⟩ := lst_of r rx e1
    refine ⟨a, vs, rfl, .inl ⟨.inl (.inl ha), hJ _ _ _ h (jok_enum fun η' μ' S' H' e r' g => ?_)⟩⟩
    obtain ⟨a', vs', ea, ha', qa'⟩ := lst_of r' (rx.ext e) g
    cases ea
    exact ⟨vs', .inl (.inl ha'), qa'⟩
end
theorem wipe_get (σ : L2.St) : ∀ (vs : List Nat) (i : Nat), (wipe σ vs)[i]? = if i ∈ vs then (σ[i]?).map (fun _ => none) else σ[i]?
  | [], i => by simp [wipe]
  | v :: vs, i => by
    have ih := wipe_get σ vs i
    have hl := wipe_length σ vs
    by_cases h : v = i
    · subst h
      by_cases hv : v < σ.length
      · simp [wipe, List.getElem?_set_self (show v < (wipe σ vs).length by omega), List.getElem?_eq_getElem hv]
      · have : σ[v]? = none := List.getElem?_eq_none_iff.mpr (by omega)
        simp [wipe, this]
        omega
    · have h' : ¬ i = v := fun z => h z.symm
      simp only [wipe, List.getElem?_set_ne h, ih, List.mem_cons, h', false_or]
theorem wipe_ext {σ τ : L2.St} {vs : List Nat} (hl : τ.length = σ.length) (h : ∀ i, i ∉ vs → τ[i]? = (wipe σ vs)[i]?) : wipe τ vs = wipe σ vs := by
  apply List.ext_getElem?
  intro i
  rw [wipe_get, wipe_get]
  by_cases hi : i ∈ vs
  · rw [if_pos hi, if_pos hi]
    by_cases hv : i < σ.length
    · rw [List.getElem?_eq_getElem hv, List.getElem?_eq_getElem (by omega)]; rfl
    · rw [List.getElem?_eq_none_iff.mpr (by omega), List.getElem?_eq_none_iff.mpr (by omega)]
  · rw [if_neg hi, if_neg hi]
    have := h i hi
    rw [wipe_get, if_neg hi] at this
    exact this
theorem re_wipe {K : PySem.W.Frag} {H : Hp} {η μ : List Addr} {ρ : DEnv} {σ : L2.St} (r : RE K H η μ ρ σ) : ∀ vs, RE K H η μ (wipeD ρ vs) (wipe σ vs)
  | [] => r
  | v :: vs => (re_wipe r vs).del v
noncomputable def CT.simple : CT → Bool
  | .name _ => true
  | .tup ts => simples ts
  | .sub _ _ => false
  | .dsub _ _ => false
  | .ksub _ _ => false
  | .kput _ _ => false
  | .sput _ _ => false
where simples : List CT → Bool
  | [] => true
  | t :: ts => CT.simple t && simples ts
noncomputable def CT.slots : CT → List Nat
  | .name i => [i]
  | .tup ts => slotss ts
  | .sub _ _ => []
  | .dsub _ _ => []
  | .ksub _ _ => []
  | .kput _ _ => []
  | .sput _ _ => []
where slotss : List CT → List Nat
  | [] => []
  | t :: ts => CT.slots t ++ slotss ts
section
variable (K : PySem.W.Frag)
mutual
noncomputable def gS : CT → TG
  | .name i => gName i
  | .tup ts => fun v σ H Q => gTup K ts.length (gSs ts) v σ H Q ∨ gLst K ts.length (gSs ts) v σ H Q
  | .sub _ _ => fun _ _ _ _ => False
  | .dsub _ _ => fun _ _ _ _ => False
  | .ksub _ _ => fun _ _ _ _ => False
  | .kput _ _ => fun _ _ _ _ => False
  | .sput _ _ => fun _ _ _ _ => False
noncomputable def gSs : List CT → TGs
  | [] => gNil
  | t :: ts => gCons (gS t) (gSs ts)
end
end
section
variable {K : PySem.W.Frag} {η μ : List Addr} {S : DStore} {H : Hp} {G : Fns}
mutual
theorem gS_run : ∀ (t : CT) {d : D} {v : V} {ρ : DEnv} {σ : L2.St} {QD : DEnv → DStore → Prop} {Q : L2.St → Hp → Prop}, CT.simple t = true → Rp K η μ S H → RE K H η μ ρ σ → RV K H η μ d v → wpG G t d ρ S QD →
    (∀ ρ' σ', RE K H η μ ρ' σ' → σ'.length = σ.length → (∀ i, i ∉ CT.slots t → σ'[i]? = σ[i]?) → QD ρ' S → Q σ' H) → gS K t v σ H Q
  | .name i, d, v, ρ, σ, QD, Q, _, hR, hE, rv, h, hQ => by
    simp only [wpG] at h
    refine hQ _ _ (hE.set rv i) (by simp) (fun j hj => ?_) h
    rw [List.getElem?_set_ne (fun z => hj (by simp [CT.slots, z]))]
  | .tup ts, d, v, ρ, σ, QD, Q, hs, hR, hE, rv, h, hQ => by
    simp only [wpG] at h
    unfold unpD at h
    split at h
    · obtain ⟨hl, h⟩ := h
      cases rv with
      | tup h1 q1 => exact .inl ⟨_, _, rfl, h1, by rw [← q1.length]; exact hl, gSs_run ts hs hR hE q1 h hl hQ⟩
    · obtain ⟨xs, e1, hl, h⟩ := h
      obtain ⟨a, vs, rfl, ha, qa⟩ := lst_of hR rv e1
      exact .inr ⟨_, _, rfl, .inl (.inl ha), by rw [← qa.length]; exact hl, gSs_run ts hs hR hE qa h hl hQ⟩
  | .sub _ _, _, _, _, _, _, _, hs, _, _, _, _, _ => by simp [CT.simple] at hs
  | .dsub _ _, _, _, _, _, _, _, hs, _, _, _, _, _ => by simp [CT.simple] at hs
  | .ksub _ _, _, _, _, _, _, _, hs, _, _, _, _, _ => by simp [CT.simple] at hs
  | .kput _ _, _, _, _, _, _, _, hs, _, _, _, _, _ => by simp [CT.simple] at hs
  | .sput _ _, _, _, _, _, _, _, hs, _, _, _, _, _ => by simp [CT.simple] at hs
theorem gSs_run : ∀ (ts : List CT) {ds : List D} {vs : List V} {ρ : DEnv} {σ : L2.St} {QD : DEnv → DStore → Prop} {Q : L2.St → Hp → Prop}, CT.simple.simples ts = true → Rp K η μ S H → RE K H η μ ρ σ → RVs K H η μ ds vs → wpGs G ts ds ρ S QD → ds.length = ts.length →
    (∀ ρ' σ', RE K H η μ ρ' σ' → σ'.length = σ.length → (∀ i, i ∉ CT.slots.slotss ts → σ'[i]? = σ[i]?) → QD ρ' S → Q σ' H) → gSs K ts vs σ H Q
  | [], ds, vs, ρ, σ, QD, Q, _, hR, hE, rv, h, hl, hQ => by
    have : ds = [] := List.eq_nil_of_length_eq_zero hl
    subst this
    cases rv
    simp only [wpGs] at h
    exact ⟨rfl, hQ _ _ hE rfl (fun _ _ => rfl) h⟩
  | t :: ts, ds, vs, ρ, σ, QD, Q, hs, hR, hE, rv, h, hl, hQ => by
    simp only [wpGs] at h
    obtain ⟨d, r, rfl, h⟩ := h
    simp only [CT.simple.simples, Bool.and_eq_true] at hs
    cases rv with
    | cons a b =>
      refine ⟨_, _, rfl, gS_run t hs.1 hR hE a h fun ρ1 σ1 e1 l1 k1 q1 => ?_⟩
      refine gSs_run ts hs.2 hR e1 b q1 (by simpa using hl) fun ρ2 σ2 e2 l2 k2 q2 => hQ _ _ e2 (l2.trans l1) (fun i hi => ?_) q2
      simp only [CT.slots.slotss, List.mem_append, not_or] at hi
      rw [k2 i hi.2, k1 i hi.1]
end
end
section
variable {K : PySem.W.Frag} {η μ : List Addr} {S : DStore}
theorem grow_pairs : ∀ (xs ys : List D) (vs us : List V) (H : Hp) (QV : List V → Hp → Prop), Rp K η μ S H → RVs K H η μ xs vs → RVs K H η μ ys us → (∀ ws H', Grow μ H μ H' → Rp K η μ S H' → RVs K H' η μ (zipD xs ys) ws → QV ws H') → growT (vs.zip us) H QV
  | _, _, _, _, H, QV, r, .nil, _, h => h [] H .refl r .nil
  | _, _, _, _, H, QV, r, .cons _ _, .nil, h => h [] H .refl r .nil
  | _, _, _, _, H, QV, r, .cons rx rxs, .cons ry rys, h => by
    intro q hq
    exact grow_pairs _ _ _ _ _ _ (rp_new r hq) (rxs.ext (grow_new r hq).ext) (rys.ext (grow_new r hq).ext) fun ws H' g' r' rw' => h _ H' ((grow_new r hq).trans g') r' (.cons ((rv_new_tup r hq (.cons rx (.cons ry .nil))).ext g'.ext) rw')
theorem listZip_of {H : Hp} (r : Rp K η μ S H) {x y : D} {v w : V} {m : Bool} {QD : QE} {Q : VK} (rx : RV K H η μ x v) (ry : RV K H η μ y w) (h : ∃ xs ys, lstOf S x = some xs ∧ lstOf S y = some ys ∧ (xs.zip ys).length ≤ sizeLine ∧ newL m (zipD xs ys) S QD)
    (hQ : ∀ v H', Post K η μ H QD v H' → Q v H') : ∃ a b xs ys, [v, w] = [V.ref a, V.ref b] ∧ SqA K false H a xs ∧ SqA K false H b ys ∧ (xs.zip ys).length ≤ sizeLine ∧ growT (xs.zip ys) H fun us H2 => ∀ q, H2 q = none → Q (.ref q) (upd H2 q (.lst us)) := by
  obtain ⟨xs, ys, e1, e2, hl, hn⟩ := h
  obtain ⟨a, vs, rfl, ha, ra⟩ := lst_of r rx e1
  obtain ⟨b, us, rfl, hb, rb⟩ := lst_of r ry e2
  have l1 := ra.length
  have l2 := rb.length
  refine ⟨a, b, vs, us, rfl, .inl (.inl ha), .inl (.inl hb), by rw [List.length_zip] at hl ⊢; omega, grow_pairs xs ys vs us H _ r ra rb fun ws H' g r' rw' q hq => hQ _ _ ?_⟩
  exact (new_lst r' rw' hn q hq).from g
end
end DL
namespace DL
open PySem PySem.Spec PyProof.Rows L2
structure FI where
  name : Str
  ps : List Str
  kws : List (List Str × List Nat)
  /-- has parameters that come by names alone -/
  ko : Bool
  /-- of which class it is a method -/
  cl : Option Str
  /-- how many levels it wants more (1 for __init__) -/
  up : Nat
/-- a class: its name, the attributes of its instances -/
structure CIn where
  name : Str
  attrs : List Str
  /-- its != is told by its own __eq__ -/
  ne : Bool := false
/-- classes of exceptions, the defs that may raise -/
structure TX where
  exs : List Str := []
  fxs : List FI := []
  /-- this def may raise -/
  rs : Bool := false
  /-- names of classes of which isinstance is asked -/
  isn : List Str := []
structure Tb where
  fns : List FI
  cls : List CIn
  gls : List Str
  bis : List Str
  /-- in the def that makes the lambda -/
  lam : Bool
  x : TX
/-- the scope, and the one whose cells are one's own -/
structure SS where
  s : Scope
  o : Scope
noncomputable def visB (sc : SS) (x : Str) : Bool := match sc.s.names.lookup x with
  | some .local | some .cell | some .free => true
  | _ => false
noncomputable def locB (sc : SS) (x : Str) : Bool := match sc.s.names.lookup x with
  | some .local => true
  | some .cell => sc.o.names.lookup x == some .cell
  | _ => false
noncomputable def glB (sc : SS) (x : Str) : Bool := match sc.s.names.lookup x with
  | some .globalImplicit => true
  | _ => false
noncomputable def pureB (sc : SS) (x : Str) : Bool := match sc.s.names.lookup x with
  | some .local => true
  | _ => false
noncomputable def cellNm (sc : SS) : Expr → Bool
  | .Name x _ => match sc.s.names.lookup x with
    | some .cell => true
    | _ => false
  | _ => false
noncomputable def notDbg (x : Str) : Bool := !(x == ("__debug__" : Str)) && !(x == ("__classdict__" : Str))
noncomputable def TyB.nm : TyB → Str
  | .int => "int" | .bool => "bool" | .str => "str" | .tuple => "tuple" | .list => "list"
/-- walks that make pairs want a target that takes them apart -/
noncomputable def CI.pairs : CI → Bool
  | .enum _ => true
  | .items _ => true
  | _ => false
noncomputable def isTupE : Expr → Bool
  | .Tuple .. => true
  | _ => false
noncomputable def okC : CC → Const → Bool
  | .non, .none => true
  | .bl b, .bool c => b == c
  | .int i, .int j => i == j
  | .str x, .str y => x == y
  | _, _ => false
noncomputable def notSl : Expr → Bool
  | .Slice .. => false
  | _ => true
noncomputable def notCall : Expr → Bool
  | .Call .. => false
  | _ => true
noncomputable def notComp : Expr → Bool
  | .ListComp .. | .SetComp .. | .DictComp .. => false
  | _ => true
noncomputable def notNm : Expr → Bool
  | .Name .. => false
  | _ => true
noncomputable def kwNames : List Keyword → List (Option Str)
  | [] => []
  | ⟨n, _, _⟩ :: r => n :: kwNames r
noncomputable def swN (sc : SS) (ts vs : List Expr) : Option (Option (List Str)) :=
  if !(ts.length == 2 || ts.length == 3) || vs.length != ts.length then some none
  else if vs.any (fun | .Starred .. => true | _ => false) then some none
  else
    let line := (ts.head?.map (·.pos.line)).getD 0
    let names := ts.filterMap fun
      | .Name id pos => if sc.s.names.lookup id == some .local && pos.line == line then some id else none
      | _ => none
    if names.length != ts.length || names.eraseDups.length != names.length then some none
    else if vs.all (foldedForSure 8) then some none
    else if vs.all (constantsAlone 8) then none
    else some (some names)
/-- no exchange of stores -/
noncomputable def noSwap (sc : SS) : Expr → Expr → Bool
  | .Tuple ts _ _, e => match e with
    | .Tuple vs _ _ => match swN sc ts vs with
      | some none => true
      | _ => false
    | _ => true
  | .List _ _, e => match e with
    | .Tuple _ _ _ => false
    | _ => true
  | _, _ => true
noncomputable def isLam : Arguments → Expr → Scope → Bool
  | ⟨[], [⟨o, none, _⟩], none, [], [], none, []⟩, .Call (.Name f _) [.Name o2 _] [] _, ⟨.function, [(n1, .local), (n2, .globalImplicit)], false, false, []⟩ => o == ("one" : Str) && f == ("abs" : Str) && o2 == ("one" : Str) && n1 == ("one" : Str) && n2 == ("abs" : Str)
  | _, _, _ => false
theorem isLam_of {a : Arguments} {b : Expr} {s : Scope} (h : isLam a b s = true) : ∃ pa p1 p2 p3, a = lamArgs pa ∧ b = lamBody p1 p2 p3 ∧ s = lamScope := by
  unfold isLam at h
  split at h
  · simp only [Bool.and_eq_true, beq_iff_eq] at h
    obtain ⟨⟨⟨⟨rfl, rfl⟩, rfl⟩, rfl⟩, rfl⟩ := h
    exact ⟨_, _, _, _, rfl, rfl, rfl⟩
  · cases h
noncomputable def hasCls (T : Tb) (cn : Str) : Bool := T.cls.any fun c => c.name == cn
noncomputable def hasNe (T : Tb) (cn : Str) : Bool := T.cls.any fun c => c.name == cn && c.ne
/-- targets that may stand in a pair of targets -/
noncomputable def t1B : CT → Bool
  | .name _ => true
  | .tup _ => false
  | .sub _ _ => true
  | .dsub _ _ => false
  | .ksub _ _ => false
  | .kput _ _ => true
  | .sput _ _ => false
/-- the targets that are not simple and may be stored to -/
noncomputable def asgT : CT → Bool
  | .name _ => false
  | .sub _ _ => true
  | .dsub _ _ => true
  | .ksub _ _ => true
  | .kput _ _ => true
  | .sput _ _ => true
  | .tup ts => match ts with
    | [.dsub _ _, .dsub _ _, .dsub _ _] => true
    | [t1, t2] => t1B t1 && t1B t2
    | _ => false
noncomputable def kPar2 (f : Str → Pos → Str → Pos → Nat → Pos → Expr → Expr → Nat → Pos → Bool) : Stmt → Bool
  | .Assign [.Tuple [.Name x px, .Name y py] kt pt] (.Tuple [a, b] k2 p2) _ => f x px y py kt pt a b k2 p2
  | _ => false
theorem kPar2_of {f : Str → Pos → Str → Pos → Nat → Pos → Expr → Expr → Nat → Pos → Bool} {st : Stmt} (h : kPar2 f st = true) : ∃ x px y py kt pt a b k2 p2 p, st = .Assign [.Tuple [.Name x px, .Name y py] kt pt] (.Tuple [a, b] k2 p2) p ∧ f x px y py kt pt a b k2 p2 = true := by
  unfold kPar2 at h
  split at h
  · exact ⟨_, _, _, _, _, _, _, _, _, _, _, rfl, h⟩
  · cases h
/-- a name of a class of which isinstance is asked -/
noncomputable def okI1 (T : Tb) (sc : SS) (y c : Str) : Bool := y == c && glB sc y && notDbg y && T.x.isn.contains y && (!(y == ("ValueError" : Str) || y == ("LookupError" : Str)) || T.bis.contains y)
noncomputable def okIs (T : Tb) (sc : SS) : List Expr → List Str → Bool
  | [], [] => !T.x.isn.isEmpty
  | .Name y _ :: es, c :: cs => okI1 T sc y c && okIs T sc es cs
  | _, _ => false
section
variable (T : Tb) (N : List Str)
mutual
noncomputable def okE (sc : SS) : CE → Expr → Bool
  | .var i, e0 => match e0 with
    | .Name x _ => visB sc x && (N[i]? == some x) && notDbg x
    | _ => false
  | .con c, e0 => match e0 with
    | .Constant k _ _ => okC c k
    | _ => false
  | .bin op _ a b, e0 => match e0 with
    | .BinOp a' op' b' _ => op == op' && okE sc a a' && okE sc b b'
    | _ => false
  | .neg a, e0 => match e0 with
    | .UnaryOp .USub a' _ => okE sc a a'
    | _ => false
  | .cmp op a b, e0 => match e0 with
    | .Compare a' [op'] [b'] _ => op == op' && okE sc a a' && okE sc b b'
    | _ => false
  | .ite t a b, e0 => match e0 with
    | .IfExp t' a' b' _ => okB sc t t' && okE sc a a' && okE sc b b'
    | _ => false
  | .tup es, e0 => match e0 with
    | .Tuple es' _ _ => okEs sc es es' && es.length ≤ 1000
    | _ => false
  | .lst _ es, e0 => match e0 with
    | .List es' _ => okEs sc es es' && es.length ≤ 1000
    | _ => false
  | .ix a i, e0 => match e0 with
    | .Subscript a' i' _ => okE sc a a' && okE sc i i' && notSl i'
    | _ => false
  | .call j es, e0 => match e0 with
    | .Call (.Name x _) es' [] _ => glB sc x && notDbg x && okEs sc es es' && (match T.fns[j]? with
        | some i => i.name == x && !i.ko && i.cl.isNone
        | none => false)
    | _ => false
  | .callK j es kes perm, e0 => match e0 with
    | .Call (.Name x _) es' kws _ => glB sc x && notDbg x && okEs sc es es' && okKs sc kes kws && (match T.fns[j]? with
        | some i => i.name == x && i.cl.isNone && i.kws.any (fun p => p.1.map some == kwNames kws && p.2 == perm)
        | none => false)
    | _ => false
  | .bi b _ es, e0 => match e0 with
    | .Call (.Name x _) (e' :: es') [] _ => glB sc x && (b.name == x) && T.bis.contains x && okEs sc es (e' :: es')
    | _ => false
  | .dcS key val tg it ifs own, e0 => match e0 with
    | .DictComp key' val' [y] scope _ => match y with
      | ⟨tg', it', ifs', 0⟩ => blkC N sc.s scope (own.map fun i => (N.getD i "", i)) && okE ⟨relS scope sc.s, scope⟩ key key' && okE ⟨relS scope sc.s, scope⟩ val val' && okT ⟨relS scope sc.s, scope⟩ tg tg' && tg.simple && tg.slots.all (own.contains ·) && okI sc it it' && okBs ⟨relS scope sc.s, scope⟩ ifs ifs' && decide (ifs.length ≤ 1) && (!it.pairs || isTupE tg')
      | _ => false
    | _ => false
  | .mk cn j es, e0 => match e0 with
    | .Call (.Name x _) es' [] _ => x == cn && glB sc x && notDbg x && okEs sc es es' && (match T.fns[j]? with
        | some i => i.name == ("__init__" : Str) && !i.ko && i.cl == some cn && hasCls T cn && i.up == 1
        | none => false)
    | _ => false
  | .isiX tp cns a, e0 => match e0 with
    | .Call (.Name x _) [a', z] [] _ => match z with
      | .Name y _ => !tp && x == ("isinstance" : Str) && glB sc x && T.bis.contains x && okE sc a a' && (match cns with
          | [c] => okI1 T sc y c
          | _ => false)
      | .Tuple es _ _ => tp && x == ("isinstance" : Str) && glB sc x && T.bis.contains x && okE sc a a' && okIs T sc es cns && decide (cns.length ≤ 1000)
      | _ => false
    | _ => false
  | .sortA _ a, e0 => match e0 with
    | .Call (.Name x _) [a'] [⟨some kn, .Lambda args body scope _, _⟩] _ => T.lam && x == ("sorted" : Str) && kn == ("key" : Str) && isLam args body scope && glB sc x && T.bis.contains x && T.bis.contains ("abs" : Str) && okE sc a a'
    | _ => false
  | .dnew, e0 => match e0 with
    | .Dict [] [] _ => true
    | _ => false
  | .dnew1 es v, e0 => match e0 with
    | .Dict [z] [v'] _ => match z with
      | some (.Tuple es' _ _) => okEs sc es es' && decide (es.length ≤ 1000) && okE sc v v'
      | _ => false
    | _ => false
  | .ktup es, e0 => match e0 with
    | .Tuple es' _ _ => okEs sc es es' && es.length ≤ 1000
    | _ => false
  | .lrg _ a b, e0 => match e0 with
    | .Call (.Name x _) [z] [] _ => match z with
      | .Call (.Name y _) [a', b'] [] _ => x == ("list" : Str) && glB sc x && T.bis.contains x && y == ("range" : Str) && glB sc y && T.bis.contains y && okE sc a a' && okE sc b b'
      | _ => false
    | _ => false
  | .dcomp key val tg it own, e0 => match e0 with
    | .DictComp key' val' [z] scope _ => match z with
      | ⟨tg', it', [], 0⟩ => blkC N sc.s scope (own.map fun i => (N.getD i "", i)) && okE ⟨relS scope sc.s, scope⟩ key key' && okE ⟨relS scope sc.s, scope⟩ val val' && okT ⟨relS scope sc.s, scope⟩ tg tg' && tg.simple && tg.slots.all (own.contains ·) && okI sc it it' && (!it.pairs || isTupE tg')
      | _ => false
    | _ => false
  | .ptup a, e0 => match e0 with
    | .Call (.Name x _) [a'] [] _ => x == ("tuple" : Str) && glB sc x && T.bis.contains x && okE sc a a'
    | _ => false
  | .lz _ a b, e0 => match e0 with
    | .Call (.Name x _) [z] [] _ => match z with
      | .Call (.Name y _) [a', b'] [] _ => x == ("list" : Str) && glB sc x && T.bis.contains x && y == ("zip" : Str) && glB sc y && T.bis.contains y && okE sc a a' && okE sc b b'
      | _ => false
    | _ => false
  | .dget2 a es x, e0 => match e0 with
    | .Call (.Attribute o m ap) [z, x'] [] cp => match z with
      | .Tuple es' _ _ => m == ("get" : Str) && (ap.endLine == cp.line) && okE sc a o && okEs sc es es' && decide (es.length ≤ 1000) && okE sc x x' && notCall o
      | _ => false
    | _ => false
  | .lc _ elt tg it ifs own, e0 => match e0 with
    | .ListComp elt' [z] scope _ => match z with
      | ⟨tg', it', ifs', 0⟩ => blkC N sc.s scope (own.map fun i => (N.getD i "", i)) && okE ⟨relS scope sc.s, scope⟩ elt elt' && okT ⟨relS scope sc.s, scope⟩ tg tg' && tg.simple && tg.slots.all (own.contains ·) && okI sc it it' && okBs ⟨relS scope sc.s, scope⟩ ifs ifs' && decide (ifs.length ≤ 1) && (!it.pairs || isTupE tg')
      | _ => false
    | _ => false
noncomputable def okEs (sc : SS) : List CE → List Expr → Bool
  | [], [] => true
  | e :: es, e' :: es' => okE sc e e' && okEs sc es es'
  | _, _ => false
noncomputable def okDs (sc : SS) : List Str → List CE → List (Option Expr) → List Expr → Bool
  | [], [], [], [] => true
  | k :: ks, e :: es, some (.Constant (.str k') _ _) :: keys, e' :: es' => k == k' && okE sc e e' && okDs sc ks es keys es'
  | _, _, _, _ => false
noncomputable def okKs (sc : SS) : List CE → List Keyword → Bool
  | [], [] => true
  | e :: es, ⟨n, e', _⟩ :: es' => n.isSome && okE sc e e' && okKs sc es es'
  | _, _ => false
noncomputable def okO (sc : SS) : CO → Option Expr → Bool
  | .no, none => true
  | .yes e, some e' => okE sc e e'
  | _, _ => false
noncomputable def okB (sc : SS) : CB → Expr → Bool
  | .cand a b, e0 => match e0 with
    | .BoolOp .And (a' :: b' :: r) p => okB sc a a' && (match r with
        | [] => okB sc b b'
        | c' :: r' => okB sc b (.BoolOp .And (b' :: c' :: r') p))
    | _ => false
  | .cor a b, e0 => match e0 with
    | .BoolOp .Or (a' :: b' :: r) p => okB sc a a' && (match r with
        | [] => okB sc b b'
        | c' :: r' => okB sc b (.BoolOp .Or (b' :: c' :: r') p))
    | _ => false
  | .cnot a, e0 => match e0 with
    | .UnaryOp .Not a' _ => okB sc a a'
    | _ => false
  | .ccmp op a b, e0 => match e0 with
    | .Compare a' [op'] [b'] _ => op == op' && okE sc a a' && okE sc b b'
    | _ => false
  | .cval e, e0 => match e0 with
    | .Name x p => okE sc e (.Name x p)
    | .Call f as ks p => okE sc e (.Call f as ks p)
    | .Subscript a i p => okE sc e (.Subscript a i p)
    | .Constant c k p => okE sc e (.Constant c k p)
    | .Attribute o f p => okE sc e (.Attribute o f p)
    | _ => false
noncomputable def okBs (sc : SS) : List CB → List Expr → Bool
  | [], [] => true
  | e :: es, e' :: es' => okB sc e e' && okBs sc es es'
  | _, _ => false
noncomputable def okT (sc : SS) : CT → Expr → Bool
  | .name i, e0 => match e0 with
    | .Name x _ => locB sc x && (N[i]? == some x)
    | _ => false
  | .tup ts, e0 => match e0 with
    | .Tuple ts' _ _ => okTs sc ts ts'
    | _ => false
  | .sub a i, e0 => match e0 with
    | .Subscript a' i' _ => okE sc a a' && okE sc i i' && notSl i'
    | _ => false
  | .ksub a i, e0 => match e0 with
    | .Subscript a' i' _ => okE sc a a' && okE sc i i' && notSl i'
    | _ => false
  | .kput a i, e0 => match e0 with
    | .Subscript a' i' _ => okE sc a a' && okE sc i i' && notSl i'
    | _ => false
  | .sput a i, e0 => match e0 with
    | .Subscript a' i' _ => okE sc a a' && okE sc i i' && notSl i'
    | _ => false
  | .dsub a es, e0 => match e0 with
    | .Subscript a' (.Tuple es' _ _) _ => okE sc a a' && okEs sc es es' && decide (es.length ≤ 1000)
    | _ => false
noncomputable def okTs (sc : SS) : List CT → List Expr → Bool
  | [], [] => true
  | e :: es, e' :: es' => okT sc e e' && okTs sc es es'
  | _, _ => false
noncomputable def okI (sc : SS) : CI → Expr → Bool
  | .seq e, e' => okE sc e e'
  | .range1 a, e0 => match e0 with
    | .Call (.Name x _) [a'] [] _ => x == ("range" : Str) && glB sc x && T.bis.contains x && okE sc a a'
    | _ => false
  | .range2 a b, e0 => match e0 with
    | .Call (.Name x _) [a', b'] [] _ => x == ("range" : Str) && glB sc x && T.bis.contains x && okE sc a a' && okE sc b b'
    | _ => false
  | .range3 a b c, e0 => match e0 with
    | .Call (.Name x _) [a', b', c'] [] _ => x == ("range" : Str) && glB sc x && T.bis.contains x && okE sc a a' && okE sc b b' && okE sc c c'
    | _ => false
  | .enum a, e0 => match e0 with
    | .Call (.Name x _) [a'] [] _ => x == ("enumerate" : Str) && glB sc x && T.bis.contains x && okE sc a a'
    | _ => false
  | .keys e, e' => okE sc e e'
  | .items e, e0 => match e0 with
    | .Call (.Attribute o m ap) [] [] cp => m == ("items" : Str) && (ap.endLine == cp.line) && okE sc e o && notCall o
    | _ => false
end
noncomputable def okR (sc : SS) : XR → Expr → Bool
  | .fn j es, e0 => match e0 with
    | .Call (.Name x _) (e1 :: es') [] _ => glB sc x && notDbg x && okEs T N sc es (e1 :: es') && (match T.x.fxs[j]? with
        | some i => i.name == x && !i.ko && i.cl.isNone
        | none => false)
    | _ => false
  | .mk cn j es, e0 => match e0 with
    | .Call (.Name x _) (e1 :: es') [] _ => x == cn && glB sc x && notDbg x && okEs T N sc es (e1 :: es') && (match T.x.fxs[j]? with
        | some i => i.name == ("__init__" : Str) && !i.ko && i.cl == some cn && hasCls T cn && i.up == 1
        | none => false)
    | _ => false
/-- a call that may raise as a statement, its value to a name -/
noncomputable def okX (sc : SS) (j : Option Nat) (r : XR) (st : Stmt) : Bool := match j with
  | none => match st with
    | .Expr e' _ => okR T N sc r e' && notComp e'
    | _ => false
  | some i => match st with
    | .Assign [.Name x _] e' _ => okR T N sc r e' && notComp e' && pureB sc x && (N[i]? == some x)
    | _ => false
noncomputable def kTryC (f : Stmt → Str → Str → Str → Str → Str → Bool) : Stmt → Bool
  | .Try [s] [.ExceptHandler (some (.Tuple [.Name x1 _, .Name x2 _] _ _)) (some n) [.Assign [.Name y _] (.Name z _) _] _] [] [] _ => f s x1 x2 n y z
  | _ => false
theorem kTryC_ex {f : Stmt → Str → Str → Str → Str → Str → Bool} {st : Stmt} (h : kTryC f st = true) : ∃ s x1 x2 n y z kk p1 p2 p3 p4 p5 p6 p7 p8, st = .Try [s] [.ExceptHandler (some (.Tuple [.Name x1 p1, .Name x2 p2] kk p3)) (some n) [.Assign [.Name y p4] (.Name z p5) p6] p7] [] [] p8 ∧ f s x1 x2 n y z = true := by
  unfold kTryC at h
  split at h
  · exact ⟨_, _, _, _, _, _, _, _, _, _, _, _, _, _, _, rfl, h⟩
  · cases h
mutual
noncomputable def okS (sc : SS) : CS → Stmt → Bool
  | .ret e, e0 => match e0 with
    | .Return (some e') _ => okE T N sc e e'
    | _ => false
  | .brk, e0 => match e0 with
    | .Break _ => true
    | _ => false
  | .never, _ => true
  | .asg t e, e0 => match e0 with
    | .Assign [t'] e' _ => okT T N sc t t' && okE T N sc e e' && (notComp e' || notNm t' || cellNm sc t') && noSwap sc t' e' && (t.simple || asgT t)
    | _ => false
  | .par2 i j a b, e0 => kPar2 (fun x px y py _ _ a' b' _ _ => pureB sc x && pureB sc y && (N[i]? == some x) && (N[j]? == some y) && decide (i ≠ j) && okE T N sc a a' && okE T N sc b b' && (swN sc [.Name x px, .Name y py] [a', b'] == some (some [x, y]))) e0
  | .aug i op e, e0 => match e0 with
    | .AugAssign (.Name x _) op' e' _ => op == op' && locB sc x && (N[i]? == some x) && okE T N sc e e'
    | _ => false
  | .append a e, e0 => match e0 with
    | .Expr (.Call (.Attribute o m ap) [e'] [] cp) _ => m == ("append" : Str) && (ap.endLine == cp.line) && okE T N sc a o && okE T N sc e e' && notCall o
    | _ => false
  | .extend a e, e0 => match e0 with
    | .Expr (.Call (.Attribute o m ap) [e'] [] cp) _ => m == ("extend" : Str) && (ap.endLine == cp.line) && okE T N sc a o && okE T N sc e e' && notCall o
    | _ => false
  | .if_ c a b, e0 => match e0 with
    | .If c' a' b' _ => okB T N sc c c' && okSs sc a a' && okSs sc b b'
    | _ => false
  | .for_ t it b, e0 => match e0 with
    | .For t' it' b' [] _ => okT T N sc t t' && t.simple && okI T N sc it it' && okSs sc b b' && (!it.pairs || isTupE t')
    | _ => false
  | .lock s, st => !T.x.rs && okS sc s st
  | .raise0 c, e0 => match e0 with
    | .Raise (some (.Call (.Name x _) [] [] _)) none _ => x == c && glB sc x && notDbg x && T.x.exs.contains c && xnm.contains c && (xfld c).isEmpty
    | _ => false
  | .tryC j r k i, e0 => kTryC (fun s x1 x2 n y z => okX T N sc j r s && glB sc x1 && notDbg x1 && glB sc x2 && notDbg x2 && (x1 == ("NotSuch" : Str) && x2 == ("Lost" : Str) || x1 == ("Lost" : Str) && x2 == ("NotSuch" : Str)) && T.x.isn.contains ("NotSuch" : Str) && T.x.isn.contains ("Lost" : Str) && pureB sc y && (N[i]? == some y) && z == n && pureB sc n && (N[k]? == some n) && notDbg n) e0
noncomputable def okSs (sc : SS) : List CS → List Stmt → Bool
  | [], [] => true
  | e :: es, e' :: es' => okS sc e e' && okSs sc es es'
  | _, _ => false
end
end
end DL
namespace DL
open PySem PySem.Spec PyProof.Rows L2
noncomputable def spOf (K : PySem.W.Frag) (sp : List D → DStore → QE → Prop) : List V → Hp → VK → Prop := fun vs H Q => ∃ η μ S ds QD, Rp K η μ S H ∧ RVs K H η μ ds vs ∧ sp ds S QD ∧ ∀ v H', Post K η μ H QD v H' → Q v H'
noncomputable def spxOf (K : PySem.W.Frag) (sp : List D → DStore → QE → QX → Prop) : List V → Hp → VK → XK → Prop := fun vs H Q E => ∃ η μ S ds QD QX, Rp K η μ S H ∧ RVs K H η μ ds vs ∧ sp ds S QD QX ∧ (∀ v H', Post K η μ H QD v H' → Q v H') ∧ XEnd K η μ H [] QX (fun cls d _ H' => E cls d H')
/-- a class of exceptions of the text -/
structure XCls (P : Program) (w : World) (K : PySem.W.Frag) (mg : Str → Option Value) (base : Heap) (c : Str) (C : Addr) : Prop where
  ns : PySem.W.nsIn K mainGlobals c = some (some (.ref C))
  gm : mg c = some (.ref C)
  rd : XfC K C
  fl : ∀ f ∈ xfld c, PySem.W.findIn K (.ref C) f = some none
  mkx : xfld c ≠ [] → ∀ X : Cx, X.prog = P → X.w = w → X.K = K → X.mg = mg → X.base = base → Room 4 X.A → Gl X c → ∀ (e : Expr) (es : List Expr) (ta : TA) (p pos : Pos), PA X (e :: es) ta → starEach (e :: es) X.env = (false, eval e X.env) :: starEach es X.env →
    (backTo pos (starEach es X.env)).any (·.1) = false → (c == ("__debug__" : Str)) = false →
    PMk X (.Call (.Name c p) (e :: es) [] pos) (fun σ H Q => ta σ H fun vs H1 => vs.length = (xfld c).length ∧ ∀ d H2, XRel c vs H1 d H2 → Q (.ref C) d H2)
  mk0 : xfld c = [] → ∀ X : Cx, X.prog = P → X.w = w → X.K = K → X.mg = mg → X.base = base → Room 4 X.A → Gl X c → (c == ("__debug__" : Str)) = false → ∀ p pos : Pos, PMk X (.Call (.Name c p) [] [] pos) (fun _ H Q => Q (.ref C) none H)
/-- arguments by names, put at their places -/
noncomputable def gK {α : Type} (d : α) (n : Nat) (perm : List Nat) (us ws : List α) : List α := if ws.length = n then us ++ perm.map (fun i => ws.getD i d) else []
theorem dints_of {K : PySem.W.Frag} {H : Hp} {η μ : List Addr} : ∀ {ys : List Int} {vs : List V}, RVs K H η μ (ys.map D.int) vs → vs = ys.map V.int
  | [], _, h => by cases h; rfl
  | y :: ys, _, h => by
    cases h with
    | cons a b => cases a; rw [dints_of b]; rfl
theorem tbs_one {K : PySem.W.Frag} {P P' : Addr} (h : P ∈ tbs K) (h' : P' ∈ tbs K) : P' = P := by
  unfold tbs at h h'
  cases e : PySem.W.tabIn K "next_pace" with
  | none => rw [e] at h; cases h
  | some cp =>
    rw [e] at h h'
    obtain ⟨c, Q⟩ := cp
    rw [List.mem_singleton.mp h]
    exact List.mem_singleton.mp h'
/-- a lambda is made -/
theorem lam_rp {K : PySem.W.Frag} {η μ : List Addr} {S : DStore} {H H2 : Hp} {P c' : Addr} {ps : Array Value} (r : Rp K η μ S H) (hP : P ∈ tbs K) (t1 : H P = some (.tbl ps))
    (t3 : ∀ (pos : Pos) (cv : Value), codeAmong pos ps.toList = some cv → ∃ c, cv = .ref c ∧ H c = some (LamX.CodeO c lamQ) ∧ c ∉ μ ∧ c ∉ η) (hL : LamH H P lamQ ps c' H2) : Grow μ H μ H2 ∧ Rp K η μ S H2 := by
  have tb := r.tb P hP
  cases hL with
  | same _ => exact ⟨.refl, r⟩
  | new more hc ht ha =>
    have at_ : ∀ b o, H b = some o → b ≠ P → upd (upd H P (.tbl (ps ++ more))) c' (LamX.CodeO c' lamQ) b = some o := fun b o e n => by rw [upd_ne (ne_of_none e hc), upd_ne n]; exact e
    have ntP : ∀ {b o}, H b = some o → (∀ ps, o ≠ .tbl ps) → b ≠ P := fun e nt z => by rw [z, t1] at e; exact nt _ (Option.some.inj e).symm
    have g : Grow μ H μ (upd (upd H P (.tbl (ps ++ more))) c' (LamX.CodeO c' lamQ)) :=
      ⟨⟨[], by simp⟩, fun a o nt e n => ⟨at_ a o e (ntP e nt), n⟩, fun a xs e => at_ a _ e (ntP e fun _ z => nomatch z), fun a o u e => at_ a _ e (ntP e fun _ z => nomatch z)⟩
    have f := r.fresh hc
    refine ⟨g, r.len, r.nodup, fun n c e => ?_, fun a h => ?_, fun P' hP' => ?_⟩
    · obtain ⟨a, h1, h2⟩ := r.cell n c e
      have hn : a ≠ P := fun z => tb.m (by rw [← z]; exact List.mem_of_getElem? h1)
      obtain ⟨o, ho⟩ := Option.ne_none_iff_exists'.mp h2.isSome
      refine ⟨a, h1, ?_⟩
      rw [at_ a o ho hn, ← ho]
      exact h2.ext g.ext
    · obtain ⟨q1, q2, q3, q4⟩ := r.hid a h
      have hn : a ≠ P := fun z => tb.n (by rw [← z]; exact h)
      obtain ⟨o, ho⟩ := Option.ne_none_iff_exists'.mp q2
      rw [at_ a o ho hn, ← ho]
      exact ⟨q1, q2, q3, q4⟩
    · obtain rfl := tbs_one hP hP'
      refine ⟨tb.m, tb.n, ps ++ more, by rw [upd_ne (ne_of_none t1 hc), upd_same], ht, fun pos cv hcv => ?_⟩
      rcases ha pos cv hcv with z | z
      · obtain ⟨c, e, h1, h2, h3⟩ := t3 pos cv z
        exact ⟨c, e, at_ c _ h1 (ntP h1 LamX.codeO_ne), h2, h3⟩
      · exact ⟨c', z, upd_same, f.1, f.2⟩
/-- what isinstance asks of a class -/
noncomputable def isCB (K : PySem.W.Frag) (C : Addr) : Bool :=
  decide (PySem.W.findIn K (.ref C) "__class__" = some (some (.builtin "object.__class__"))) && decide (PySem.W.specialIn K (.builtin "object.__class__") "__get__" = some (some (.builtin "getset_descriptor.__get__"))) &&
    decide (PySem.W.takesIn K (.builtin "object.__class__") = some true) && decide (PySem.W.mroIn K C (.type "object") = some true) && decide (PySem.W.kitOne K (.ref C) (.ref C) = some true) && (PySem.W.clsIn K C).isSome && decide (PySem.W.typeIn K (.ref C) = some (.type "type"))
/-- what isinstance asks of the class of exceptions at C -/
noncomputable def excCB (K : PySem.W.Frag) (C : Addr) : Bool :=
  decide (PySem.W.findIn K (.ref C) "__getattribute__" = some (some (.builtin "BaseException.__getattribute__"))) && decide (PySem.W.findIn K (.ref C) "__getattr__" = some none) && decide (PySem.W.subIn K (.ref C) (.type "BaseException") = some true) && (PySem.W.clsIn K C).isSome &&
    decide (PySem.W.findIn K (.ref C) "__class__" = some (some (.builtin "object.__class__"))) && decide (PySem.W.specialIn K (.builtin "object.__class__") "__get__" = some (some (.builtin "getset_descriptor.__get__"))) &&
    decide (PySem.W.takesIn K (.builtin "object.__class__") = some true) && decide (PySem.W.mroIn K C (.type "object") = some true)
/-- a class's value by its name -/
noncomputable def kitV (K : PySem.W.Frag) (x : Str) : Option Value := if x = ("ValueError" : Str) then some (.type "ValueError") else if x = ("LookupError" : Str) then some (.type "LookupError") else match PySem.W.nsIn K mainGlobals x with
  | some (some (.ref C)) => some (.ref C)
  | _ => none
/-- what isinstance and except say of the classes of exceptions -/
noncomputable def xallB (K : PySem.W.Frag) (xs : List Str) : Bool := xnm.all fun c => match PySem.W.nsIn K mainGlobals c with
  | some (some (.ref C)) => excCB K C && (xs.all fun x => match kitV K x with
      | some u => decide (PySem.W.kitOne K (.ref C) u = some (isX c x))
      | none => false) && (match PySem.W.nsIn K mainGlobals "NotSuch", PySem.W.nsIn K mainGlobals "Lost" with
      | some (some (.ref C1)), some (some (.ref C2)) => decide (PySem.W.exmAny K (.ref C) [.ref C1, .ref C2] = some true) && decide (PySem.W.exmAny K (.ref C) [.ref C2, .ref C1] = some true)
      | _, _ => false)
  | _ => true
structure XAll (K : PySem.W.Frag) (mg : Str → Option Value) (xs : List Str) : Prop where
  ns : ∀ x ∈ xs, x = ("ValueError" : Str) ∨ x = ("LookupError" : Str) ∨ ∃ C, PySem.W.nsIn K mainGlobals x = some (some (.ref C)) ∧ mg x = some (.ref C)
  b : xallB K xs = true
theorem XAll.at {K : PySem.W.Frag} {mg : Str → Option Value} {xs : List Str} (h : XAll K mg xs) {c : Str} {C : Addr} (m : c ∈ xnm) (n : PySem.W.nsIn K mainGlobals c = some (some (.ref C))) :
    excCB K C = true ∧ (∀ x ∈ xs, ∃ u, kitV K x = some u ∧ PySem.W.kitOne K (.ref C) u = some (isX c x)) ∧ ∃ C1 C2, PySem.W.nsIn K mainGlobals "NotSuch" = some (some (.ref C1)) ∧ PySem.W.nsIn K mainGlobals "Lost" = some (some (.ref C2)) ∧
      PySem.W.exmAny K (.ref C) [.ref C1, .ref C2] = some true ∧ PySem.W.exmAny K (.ref C) [.ref C2, .ref C1] = some true := by
  have q := List.all_eq_true.mp h.b c m
  rw [n] at q
  simp only [Bool.and_eq_true] at q
  obtain ⟨⟨q1, q2⟩, q3⟩ := q
  refine ⟨q1, fun x hx => ?_, ?_⟩
  · have z := List.all_eq_true.mp q2 x hx
    split at z
    · rename_i u hu
      exact ⟨u, hu, of_decide_eq_true z⟩
    · cases z
  · split at q3
    · rename_i C1 C2 e1 e2
      simp only [Bool.and_eq_true, decide_eq_true_eq] at q3
      exact ⟨C1, C2, e1, e2, q3.1, q3.2⟩
    · cases q3
structure Tab (P : Program) (w : World) (K : PySem.W.Frag) (mg : Str → Option Value) (base : Heap) (k : Nat) (T : Tb) (G : Fns) : Prop where
  fn : ∀ (j : Nat) (i : FI), T.fns[j]? = some i → ∃ f fd, (FnG P w K mg base (k - i.up) f fd i.ps (spOf K (G.fn j)) ∧ i.up ≤ k) ∧ ((i.cl = none → mg i.name = some (.ref f)) ∧ ∀ cn, i.cl = some cn → ∃ C, PySem.W.nsIn K mainGlobals cn = some (some (.ref C)) ∧ Meth K C i.name f) ∧ PySem.W.keepIn K (.ref f) = true ∧ (i.ko = false → KBinds K fd i.ps [] (fun us _ => us) (fun vs _ => vs)) ∧
    ∀ p ∈ i.kws, KBinds K fd i.ps p.1 (gK .none p.1.length p.2) (gK .non p.1.length p.2)
  cls : ∀ c ∈ T.cls, ∃ C, PySem.W.nsIn K mainGlobals c.name = some (some (.ref C)) ∧ mg c.name = some (.ref C) ∧ Cls K C ∧ (∀ f ∈ c.attrs, NoAttr K C f) ∧ PySem.W.makesIn K C = true ∧ PySem.W.keepIn K (.ref C) = true ∧ isCB K C = true ∧ (c.ne = true → NeC K C)
  gl : ∀ (j : Nat) (x : Str), T.gls[j]? = some x → ∃ u v, mg x = some u ∧ RelV v u ∧ (∀ H η μ, RV K H η μ (G.gl j) v) ∧ ∀ a, v = .ref a → ∃ o, K.lookup a = some o ∧ o.cls = .type "tuple" ∧ o.dict = none
  bi : ∀ x ∈ T.bis, mg x = none
  ex : ∀ c ∈ T.x.exs, (∃ C, XCls P w K mg base c C) ∧ 4 ≤ k
  sub : ∀ c ∈ T.x.exs, ∀ c' ∈ xnm, ∀ C C', PySem.W.nsIn K mainGlobals c = some (some (.ref C)) → PySem.W.nsIn K mainGlobals c' = some (some (.ref C')) → PySem.W.exmOne K (.ref C') (.ref C) = some (c' == c)
  fx : ∀ (j : Nat) (i : FI), T.x.fxs[j]? = some i → ∃ f fd, (FnX P w K mg base (k - i.up) f fd i.ps (spxOf K (G.fx j)) ∧ i.up ≤ k) ∧ ((i.cl = none → mg i.name = some (.ref f)) ∧ ∀ cn, i.cl = some cn → ∃ C, PySem.W.nsIn K mainGlobals cn = some (some (.ref C)) ∧ Meth K C i.name f) ∧ PySem.W.keepIn K (.ref f) = true ∧ (i.ko = false → KBinds K fd i.ps [] (fun us _ => us) (fun vs _ => vs))
  xa : T.x.isn = [] ∨ XAll K mg T.x.isn
structure Here (T : Tb) (G : Fns) (k : Nat) (N : List Str) (X : Cx) (sc : SS) : Prop where
  tab : Tab X.prog X.w X.K X.mg X.base k T G
  nm : X.N = N
  nd : N.Nodup
  scp : X.env.scope = sc.s
  kind : sc.s.kind = .function
  calm : X.calm = true
  room : Room k X.A
  gd : X.A.guards = some []
  xe : PassesOwn (model X.prog X.w) X.A X.env X.xe
  fn : ∀ x, sc.o.names.lookup x = some .cell → X.fn x = true
  lam : T.lam = true → ∃ c P, LamX.TabB X.base X.mg c P ∧ X.env.code = .ref c ∧ X.env.qual ++ "<lambda>" = lamQ ∧ P ∈ tbs X.K
section
variable {T : Tb} {G : Fns} {k : Nat} {N : List Str} {X : Cx} {sc : SS}
theorem vis_of {x : Str} (h : visB sc x = true) : Vis sc.s x := by
  unfold visB at h; unfold Vis
  split at h <;> simp_all
theorem loc_of {x : Str} (h : locB sc x = true) : L2.Loc sc.s x ∧ (sc.o.names.lookup x = some .cell ∨ sc.s.names.lookup x = some .local) := by
  unfold locB at h; unfold L2.Loc
  split at h <;> simp_all
theorem gl_of {x : Str} (hx : Here T G k N X sc) (h : glB sc x = true) : Gl X x := by
  unfold glB at h
  show X.env.scope.names.lookup x = some .globalImplicit
  rw [hx.scp]
  split at h <;> simp_all
theorem pure_of {x : Str} (h : pureB sc x = true) : sc.s.names.lookup x = some .local := by
  unfold pureB at h
  split at h <;> simp_all
theorem dbg_of {x : Str} (h : notDbg x = true) : (x == ("__debug__" : Str)) = false ∧ (x == ("__classdict__" : Str)) = false := by
  unfold notDbg at h
  simpa using h
theorem no_star {c : CE} {e : Expr} {p : Pos} : okE T N sc c (.Starred e p) = true → False := by
  cases c <;> exact fun h => (Bool.false_ne_true h).elim
theorem no_set {c : CE} {es : List Expr} {n : Nat} {p : Pos} : okE T N sc c (.Set es n p) = true → False := by
  cases c <;> exact fun h => (Bool.false_ne_true h).elim
theorem star_of {c : CE} {e : Expr} {es : List Expr} {env : Env} (h : okE T N sc c e = true) : starEach (e :: es) env = (false, eval e env) :: starEach es env := by
  cases e <;> first | rfl | exact (no_star h).elim
theorem mark_of {c : CE} {e : Expr} {op : CmpOp} (h : okE T N sc c e = true) : behindInMarks op e = false := by
  cases e <;> first | rfl | exact (no_set h).elim
theorem stars_of {pos : Pos} {env : Env} : ∀ {es : List CE} {es' : List Expr}, okEs T N sc es es' = true → (backTo pos (starEach es' env)).any (·.1) = false
  | [], [], _ => rfl
  | [], _ :: _, h => by simp [okEs] at h
  | _ :: _, [], h => by simp [okEs] at h
  | e :: es, e' :: es', h => by
    simp only [okEs, Bool.and_eq_true] at h
    rw [star_of h.1]
    have ih := stars_of (pos := pos) (env := env) h.2
    simpa [backTo] using ih
theorem kws_of {pos : Pos} {env : Env} : ∀ {es : List CE} {ks : List Keyword} , okKs T N sc es ks = true → (backToKw pos (keywordEach ks env)).all (·.1.isSome) = true ∧ (backToKw pos (keywordEach ks env)).any (·.1.isNone) = false ∧
    (backToKw pos (keywordEach ks env)).map (·.1) = kwNames ks
  | [], [], _ => ⟨rfl, rfl, rfl⟩
  | [], _ :: _, h => by simp [okKs] at h
  | _ :: _, [], h => by simp [okKs] at h
  | e :: es, ⟨n, e', p⟩ :: es', h => by
    simp only [okKs, Bool.and_eq_true] at h
    obtain ⟨a, b, c⟩ := kws_of (pos := pos) (env := env) h.2
    refine ⟨?_, ?_, ?_⟩
    · simp [backToKw, keywordEach] at a ⊢
      exact ⟨h.1.1, a⟩
    · simp [backToKw, keywordEach] at b ⊢
      exact ⟨by cases n <;> simp_all, b⟩
    · simp [backToKw, keywordEach, kwNames] at c ⊢
      exact c
theorem filterMap_names : ∀ {α : Type} (l : List (Option Str × α)) (ks : List Str), l.map (·.1) = ks.map some → l.filterMap (·.1) = ks
  | _, [], [], _ => rfl
  | _, [], _ :: _, h => by simp at h
  | _, _ :: _, [], h => by simp at h
  | _, (n, a) :: l, y :: ks, h => by
    simp only [List.map_cons, List.cons.injEq] at h
    obtain ⟨h1, h2⟩ := h
    have h1' : n = some y := h1
    subst h1'
    have ih := filterMap_names l ks h2
    simpa using ih
theorem sub_of {o i : Expr} {pos : Pos} {env : Env} (h : notSl i = true) : ∀ v, assign (.Subscript o i pos) env v = (do
      let ov ← holding [v] (eval o env)
      let iv ← holding [v, ov] (eval i env)
      standAt pos
      holding [v, ov, iv] (setItem ov iv v)
      release [v, ov, iv] []) := by
  cases i <;> first | (intro v; rfl) | (simp [notSl] at h)
theorem plain_of {i : Expr} (h : notSl i = true) : PlainIx i := by
  cases i <;> first | (intro o j; rfl) | (simp [notSl] at h)
theorem base_of {o : Expr} {m : Str} {env : Env} (h : notCall o = true) : attributeBase o m env (eval o env) = eval o env := by
  cases o <;> first | rfl | (simp [notCall] at h)
theorem swaps_of {e : Expr} {t : Option Expr} {l : Nat} {env : Env} (h : notComp e = true) : swapsWith e t l env = pure false := by
  cases e <;> first | rfl | (simp [notComp] at h)
theorem block_of (hx : Here T G k N X sc) : X.env.blockKind = .function := by
  unfold Env.blockKind
  rw [hx.scp, hx.kind]; rfl
theorem swN_of (hx : Here T G k N X sc) {ts vs : List Expr} {r : Option (List Str)} {k1 k2 : Nat} {p1 p2 : Pos} (h : swN sc ts vs = some r) : swappedStores [.Tuple ts k1 p1] (.Tuple vs k2 p2) X.env = pure r := by
  have hb := block_of hx
  unfold swN at h
  unfold swappedStores
  have hk : ∀ id : Str, X.env.kindOf id = sc.s.names.lookup id := fun id => by
    show X.env.scope.names.lookup id = _
    rw [hx.scp]
  simp only [hb, hk, bne_self_eq_false, Bool.or_false]
  split at h
  · rename_i h1
    cases h
    exact if_pos h1
  · rename_i h1
    refine (if_neg h1).trans ?_
    split at h
    · rename_i h2
      cases h
      exact if_pos h2
    · rename_i h2
      refine (if_neg h2).trans ?_
      simp only at h
      split at h
      · rename_i h3
        cases h
        exact if_pos h3
      · rename_i h3
        refine (if_neg h3).trans ?_
        split at h
        · rename_i h4
          cases h
          exact if_pos h4
        · rename_i h4
          refine (if_neg h4).trans ?_
          split at h
          · cases h
          · rename_i h5
            cases h
            exact if_neg h5
theorem noSwap_of (hx : Here T G k N X sc) {t e : Expr} (h : noSwap sc t e = true) : swappedStores [t] e X.env = pure none := by
  cases t <;> first | rfl | (cases e <;> first | rfl | (exact (Bool.false_ne_true h).elim) | skip)
  unfold noSwap at h
  simp only at h
  split at h
  · rename_i h1; exact swN_of hx h1
  · cases h
end
end DL
namespace DL
open PySem PySem.Spec PyProof.Rows L2
section
variable {T : Tb} {G : Fns} {k : Nat} {N : List Str}
theorem getD_of {K : PySem.W.Frag} {H : Hp} {η μ : List Addr} {ds : List D} {vs : List V} (q : RVs K H η μ ds vs) (i : Nat) : RV K H η μ (ds.getD i .non) (vs.getD i .non) := by
  by_cases h : i < ds.length
  · obtain ⟨v, e, r⟩ := q.get (List.getElem?_eq_getElem h)
    rw [List.getD_eq_getElem?_getD, List.getD_eq_getElem?_getD, List.getElem?_eq_getElem h, e]
    exact r
  · rw [List.getD_eq_getElem?_getD, List.getD_eq_getElem?_getD, List.getElem?_eq_none_iff.mpr (by omega), List.getElem?_eq_none_iff.mpr (by rw [← q.length]; omega)]
    exact .non
theorem perm_of {K : PySem.W.Frag} {H : Hp} {η μ : List Addr} {ds : List D} {vs : List V} (q : RVs K H η μ ds vs) : ∀ l : List Nat, RVs K H η μ (l.map fun i => ds.getD i .non) (l.map fun i => vs.getD i .non)
  | [] => .nil
  | i :: l => .cons (getD_of q i) (perm_of q l)
theorem Here.blk {X : Cx} {sc : SS} {scope : Scope} (hx : Here T G k N X sc) (hk : scope.kind = .function) (s : Shared) (H : Hp) (C : Addr) (cl : List (Str × Addr)) (fp : List Addr) :
    Here T G k N (X.blk s H scope (compEnvC scope cl C X.env) fp) ⟨relS scope sc.s, scope⟩ :=
  ⟨hx.tab, hx.nm, hx.nd, by rw [← hx.scp]; rfl, hk, hx.calm, hx.room, hx.gd, PassesOwn.never, fun x h => by show (scope.names.lookup x == some .cell) = true; rw [h]; rfl, hx.lam⟩
theorem grow_hidden {μ μ' : List Addr} {H H' : Hp} {D : Addr} {o : HO} (g : Grow μ H μ' H') (h : H D = none) : Grow μ H μ' (upd H' D o) :=
  ⟨g.pre, fun a u t e n => ⟨by rw [upd_ne (ne_of_none e h)]; exact (g.keep a u t e n).1, (g.keep a u t e n).2⟩, fun a xs e => by rw [upd_ne (ne_of_none e h)]; exact g.tup a xs e, fun a u w e => by rw [upd_ne (ne_of_none e h)]; exact g.frz a u w e⟩
theorem ext_hidden {η μ μ' : List Addr} {H H' : Hp} {D : Addr} (g : Grow μ H μ' H') (h : H D = none) : Ext η μ H (D :: η) μ' H' :=
  ⟨g.pre, fun a u t e n m => ⟨(g.keep a u t e n).1, (g.keep a u t e n).2, fun z => by
    rcases List.mem_cons.mp z with z | z
    · exact ne_of_none e h z
    · exact m z⟩, g.tup, g.frz⟩
theorem bool_ext {X : Cx} {op : BoolOp} {vs : List Expr} {p : Pos} {t : TT} (h : PT X (.BoolOp op vs p) t) : PW X (.BoolOp op vs p) t := ⟨fun whole pins s σ H Q I q => by
  have := h.run pins s σ H Q I q
  simp only [PySem.isTrue] at this ⊢
  exact this⟩
/-- the reading of a comprehension -/
theorem lc_of {X : Cx} {η μ : List Addr} {ρ : DEnv} {S : DStore} {σ : L2.St} {H : Hp} {m : Bool} {elt : CE} {tg : CT} {it : CI} {ifs : List CB} {own : List Nat} {QD : QE} {Q : VK}
    (hE : RE X.K H η μ ρ σ) (hR : Rp X.K η μ S H) (hs : tg.simple = true) (hsl : ∀ i ∈ tg.slots, i ∈ own) (hT : wpE G (.lc m elt tg it ifs own) ρ S QD) (hQ : ∀ v H', Post X.K η μ H QD v H' → Q v H') :
    tLc (iOf X.K (wpI G it)) (gS X.K tg) (bOf X.K (wpBs G ifs)) (tOf X.K (wpE G elt)) own σ H Q := by
  simp only [wpE] at hT
  refine ⟨η, μ, ρ, S, _, hE, hR, hT, fun J H1 items I S1 μ1 g1 r1 hW jok D hD => ?_⟩
  obtain ⟨W, w0, wst, hlen, turn, fin⟩ := hW
  have hDη : D ∉ η := (r1.fresh hD).2
  refine ⟨fun i m H' => i ≤ items.length ∧ m = items.length - i ∧ ∃ acc vs S' μ', Grow μ1 H1 μ' H' ∧ Rp X.K (D :: η) μ' S' H' ∧ H' D = some (.lst vs) ∧ RVs X.K H' (D :: η) μ' acc vs ∧ W i acc S',
    ⟨items.length, Nat.zero_le _, rfl, [], [], S1, μ1, grow_new r1 hD, rp_hide r1 hD, upd_same, .nil, w0⟩, ?_⟩
  rintro i mm H' ⟨hi, rfl, acc, vs, S', μ', gg, rr, hDv, rvs, w⟩
  obtain ⟨hI, hacc, _⟩ := wst i acc S' w
  obtain ⟨jgo, jstop⟩ := jok i (D :: η) μ' S' H' (ext_hidden gg hD) rr hI
  by_cases hlt : i < items.length
  · right
    obtain ⟨go, yl⟩ := jgo hlt
    refine ⟨go, fun H'' => i + 1 ≤ items.length ∧ ∃ acc vs S' μ', Grow μ1 H1 μ' H'' ∧ Rp X.K (D :: η) μ' S' H'' ∧ H'' D = some (.lst vs) ∧ RVs X.K H'' (D :: η) μ' acc vs ∧ W (i + 1) acc S',
      fun H'' hN => ⟨items.length - (i + 1), by omega, hN.1, rfl, hN.2⟩, fun x H'' hy => ?_⟩
    obtain ⟨gy, ry, d, hd, rvd⟩ := yl x H'' hy
    have hE2 : RE X.K H'' (D :: η) μ' ρ σ := ((hE.ext g1.ext).ext (ext_hidden gg hD)).ext gy.ext
    refine gS_run tg hs ry (re_wipe hE2 own) rvd (turn i d acc S' w hd) fun ρ2 σ2 e2 l2 k2 q2 => ⟨?_, ?_⟩
    · refine wipe_ext (by rw [l2, wipe_length]) fun j hj => ?_
      exact k2 j fun z => hj (hsl j z)
    · have hDy : H'' D = some (.lst vs) := (gy.keep D _ (by first | exact nt_lst | exact nt_dK) hDv (rr.hid D (by simp)).1).1
      refine useB e2 ry q2 fun b S3 μ3 H3 g3 r3 e3 q3 => ?_
      have hD3 : H3 D = some (.lst vs) := (g3.keep D _ (by first | exact nt_lst | exact nt_dK) hDy (ry.hid D (by simp)).1).1
      cases b with
      | true =>
        simp only [if_true] at q3 ⊢
        refine use e3 r3 q3 fun y S4 v4 μ4 H4 g4 r4 e4 rv4 q4 => ?_
        have hD4 : H4 D = some (.lst vs) := (g4.keep D _ (by first | exact nt_lst | exact nt_dK) hD3 (r3.hid D (by simp)).1).1
        have gAll : Grow μ1 H1 μ4 H4 := ((gg.trans gy).trans g3).trans g4
        have rvs4 : RVs X.K H4 (D :: η) μ4 acc vs := ((rvs.ext gy.ext).ext g3.ext).ext g4.ext
        refine ⟨vs, hD4, by rw [← rvs.length]; omega, hlt, acc ++ [y], vs ++ [v4], S4, μ4, grow_hidden gAll hD, rp_hset r4, upd_same, ?_, q4⟩
        exact (rvs4.append (.cons rv4 .nil)).ext (ext_hset r4)
      | false =>
        simp only [Bool.false_eq_true, if_false] at q3 ⊢
        exact ⟨hlt, acc, vs, S3, μ3, (gg.trans gy).trans g3, r3, hD3, (rvs.ext gy.ext).ext g3.ext, q3⟩
  · left
    have hi' : i = items.length := by omega
    subst hi'
    refine ⟨jstop (Nat.le_refl _) (Nat.le_refl _), hQ _ _ ?_⟩
    have f := fin acc S' w
    cases m with
    | true =>
      refine ⟨_, _, _, g1.trans ⟨?_, fun a o t e n => ⟨(gg.keep a o t e n).1, fun z => ?_⟩, gg.tup, gg.frz⟩, rp_showCell hDη rr hDv rvs, .ref (by rw [← rr.len]; simp), f⟩
      · obtain ⟨more, rfl⟩ := gg.pre
        exact ⟨more ++ [D], by simp⟩
      · rcases List.mem_append.mp z with z | z
        · exact (gg.keep a o t e n).2 z
        · exact ne_of_none e hD (by simpa using z)
    | false => exact ⟨_, _, _, g1.trans gg, rp_show rr, .lst (rr.hid D (by simp)).1 hDη hDv (rvs.ext ext_show), f⟩
/-- the reading of a dict's comprehension -/
theorem dc_of {X : Cx} {η μ : List Addr} {ρ : DEnv} {S : DStore} {σ : L2.St} {H : Hp} {key val : CE} {tg : CT} {it : CI} {own : List Nat} {QD : QE} {Q : VK}
    (hE : RE X.K H η μ ρ σ) (hR : Rp X.K η μ S H) (hs : tg.simple = true) (hsl : ∀ i ∈ tg.slots, i ∈ own) (hT : wpE G (.dcomp key val tg it own) ρ S QD) (hQ : ∀ v H', Post X.K η μ H QD v H' → Q v H') :
    tDc (iOf X.K (wpI G it)) (gS X.K tg) tYes (tOf X.K (wpE G key)) (tOf X.K (wpE G val)) own σ H Q := by
  simp only [wpE] at hT
  refine ⟨η, μ, ρ, S, _, hE, hR, hT, fun J H1 items I S1 μ1 g1 r1 hW jok D hD => ?_⟩
  obtain ⟨W, w0, wst, turn, fin⟩ := hW
  have hDη : D ∉ η := (r1.fresh hD).2
  refine ⟨fun i m H' => i ≤ items.length ∧ m = items.length - i ∧ ∃ acc vs S' μ', Grow μ1 H1 μ' H' ∧ Rp X.K (D :: η) μ' S' H' ∧ H' D = some (.dK vs) ∧ RKs X.K H' (D :: η) μ' acc vs ∧ W i acc S',
    ⟨items.length, Nat.zero_le _, rfl, [], [], S1, μ1, grow_new r1 hD, rp_hideO r1 (fun _ z => nomatch z) (fun _ _ z => nomatch z) hD, upd_same, .nil, w0⟩, ?_⟩
  rintro i mm H' ⟨hi, rfl, acc, vs, S', μ', gg, rr, hDv, rvs, w⟩
  obtain ⟨hI, _⟩ := wst i acc S' w
  obtain ⟨jgo, jstop⟩ := jok i (D :: η) μ' S' H' (ext_hidden gg hD) rr hI
  by_cases hlt : i < items.length
  · right
    obtain ⟨go, yl⟩ := jgo hlt
    refine ⟨go, fun H'' => i + 1 ≤ items.length ∧ ∃ acc vs S' μ', Grow μ1 H1 μ' H'' ∧ Rp X.K (D :: η) μ' S' H'' ∧ H'' D = some (.dK vs) ∧ RKs X.K H'' (D :: η) μ' acc vs ∧ W (i + 1) acc S',
      fun H'' hN => ⟨items.length - (i + 1), by omega, hN.1, rfl, hN.2⟩, fun x H'' hy => ?_⟩
    obtain ⟨gy, ry, d, hd, rvd⟩ := yl x H'' hy
    have hE2 : RE X.K H'' (D :: η) μ' ρ σ := ((hE.ext g1.ext).ext (ext_hidden gg hD)).ext gy.ext
    refine gS_run tg hs ry (re_wipe hE2 own) rvd (turn i d acc S' w hd) fun ρ2 σ2 e2 l2 k2 q2 => ⟨?_, ?_⟩
    · refine wipe_ext (by rw [l2, wipe_length]) fun j hj => ?_
      exact k2 j fun z => hj (hsl j z)
    · have hDy : H'' D = some (.dK vs) := (gy.keep D _ (by first | exact nt_lst | exact nt_dK) hDv (rr.hid D (by simp)).1).1
      simp only [tYes, if_true]
      refine use e2 ry q2 fun y S3 v3 μ3 H3 g3 r3 e3 rv3 q3 => ?_
      have hD3 : H3 D = some (.dK vs) := (g3.keep D _ (by first | exact nt_lst | exact nt_dK) hDy (ry.hid D (by simp)).1).1
      refine use e3 r3 q3 fun z S4 v4 μ4 H4 g4 r4 e4 rv4 q4 => ?_
      have hD4 : H4 D = some (.dK vs) := (g4.keep D _ (by first | exact nt_lst | exact nt_dK) hD3 (r3.hid D (by simp)).1).1
      obtain ⟨k, hk, hlen, q⟩ := q4
      have gAll : Grow μ1 H1 μ4 H4 := ((gg.trans gy).trans g3).trans g4
      have rvs4 : RKs X.K H4 (D :: η) μ4 acc vs := ((rvs.ext gy.ext).ext g3.ext).ext g4.ext
      refine ⟨vs, k, keyOf_rv rv3 hk, hD4, by rw [← rvs.length]; exact hlen, hlt, putD acc k z, putK vs k v4, S4, μ4, grow_hidden gAll hD, rp_hsetO (fun _ z => nomatch z) (fun _ _ z => nomatch z) r4, upd_same, ?_, q⟩
      exact (rvs4.put rv4).ext (ext_hset r4)
  · left
    have hi' : i = items.length := by omega
    subst hi'
    refine ⟨jstop (Nat.le_refl _) (Nat.le_refl _), hQ _ _ ?_⟩
    have f := fin acc S' w
    refine ⟨_, _, _, g1.trans ⟨?_, fun a o t e n => ⟨(gg.keep a o t e n).1, fun z => ?_⟩, gg.tup, gg.frz⟩, rp_showCellK hDη rr hDv rvs, .ref (by rw [← rr.len]; simp), f⟩
    · obtain ⟨more, rfl⟩ := gg.pre
      exact ⟨more ++ [D], by simp⟩
    · rcases List.mem_append.mp z with z | z
      · exact (gg.keep a o t e n).2 z
      · exact ne_of_none e hD (by simpa using z)
end
end DL
namespace DL
open PySem PySem.Spec PyProof.Rows L2
section
variable {K : PySem.W.Frag} {η μ : List Addr} {S : DStore} {H : Hp}
theorem k3_vals {st : K3} {vs : List V} (q : RVs K H η μ [.int st.1, .bl st.2.1, .int st.2.2] vs) : vs = v3 st := by
  cases q with
  | cons a q =>
    cases q with
    | cons b q =>
      cases q with
      | cons c q =>
        cases q
        cases a
        cases b
        cases c
        rfl
theorem put3_map (xs : List (K3 × Addr)) (k : K3) (b : Addr) : (put3 xs k b).map (·.1) = put3D (xs.map (·.1)) k := by
  unfold put3 put3D
  split
  · rfl
  · simp
theorem put3_ks {xs : List (K3 × Addr)} {k : K3} {b : Addr} (q : Ks3 K H xs) (hb : SqT K H b (v3 k)) : Ks3 K H (put3 xs k b) := fun x hx => by
  unfold put3 at hx
  split at hx
  · exact q x hx
  · rcases List.mem_append.mp hx with h | h
    · exact q x h
    · rw [List.mem_singleton.mp h]
      exact hb
end
/-- the reading of a comprehension of states -/
theorem ks3_grow {K : PySem.W.Frag} {μ μ' : List Addr} {H H' : Hp} {xs : List (K3 × Addr)} (g : Grow μ H μ' H') (h : Ks3 K H xs) : Ks3 K H' xs := h.ext (g.ext (η := []))
theorem nt_std {a : Addr} {xs : List (K3 × Addr)} : NT (StD a xs) := fun _ z => nomatch z
theorem dcs_of {X : Cx} {η μ : List Addr} {ρ : DEnv} {S : DStore} {σ : L2.St} {H : Hp} {key val : CE} {tg : CT} {it : CI} {ifs : List CB} {own : List Nat} {QD : QE} {Q : VK}
    (hE : RE X.K H η μ ρ σ) (hR : Rp X.K η μ S H) (hs : tg.simple = true) (hsl : ∀ i ∈ tg.slots, i ∈ own) (hT : wpE G (.dcS key val tg it ifs own) ρ S QD) (hQ : ∀ v H', Post X.K η μ H QD v H' → Q v H') :
    tDcS X.K (iOf X.K (wpI G it)) (gS X.K tg) (bOf X.K (wpBs G ifs)) (tOf X.K (wpE G key)) (tOf X.K (wpE G val)) own σ H Q := by
  simp only [wpE] at hT
  refine ⟨η, μ, ρ, S, _, hE, hR, hT, fun J H1 items I S1 μ1 g1 r1 hW jok D hD => ?_⟩
  obtain ⟨W, w0, wst, hlen, turn, fin⟩ := hW
  have hDη : D ∉ η := (r1.fresh hD).2
  refine ⟨fun i m H' => i ≤ items.length ∧ m = items.length - i ∧ ∃ (ks : List K3) (xs : List (K3 × Addr)) (S' : DStore) (μ' : List Addr), Grow μ1 H1 μ' H' ∧ Rp X.K (D :: η) μ' S' H' ∧ H' D = some (StD D xs) ∧ Ks3 X.K H' xs ∧ xs.map (·.1) = ks.foldl put3D [] ∧ xs.length ≤ i ∧ W i (ks.map k3D) S',
    ⟨items.length, Nat.zero_le _, rfl, [], [], S1, μ1, grow_new r1 hD, rp_hideO r1 (fun _ z => nomatch z) (fun _ _ z => nomatch z) hD, upd_same, (fun _ z => nomatch z), rfl, Nat.le_refl _, w0⟩, ?_⟩
  rintro i mm H' ⟨hi, rfl, ks, xs, S', μ', gg, rr, hDv, hK, hM, hn, w⟩
  obtain ⟨hI, hacc, _⟩ := wst i _ S' w
  obtain ⟨jgo, jstop⟩ := jok i (D :: η) μ' S' H' (ext_hidden gg hD) rr hI
  by_cases hlt : i < items.length
  · right
    obtain ⟨go, yl⟩ := jgo hlt
    refine ⟨go, fun H'' => i + 1 ≤ items.length ∧ ∃ (ks : List K3) (xs : List (K3 × Addr)) (S' : DStore) (μ' : List Addr), Grow μ1 H1 μ' H'' ∧ Rp X.K (D :: η) μ' S' H'' ∧ H'' D = some (StD D xs) ∧ Ks3 X.K H'' xs ∧ xs.map (·.1) = ks.foldl put3D [] ∧ xs.length ≤ i + 1 ∧ W (i + 1) (ks.map k3D) S',
      fun H'' hN => ⟨items.length - (i + 1), by omega, hN.1, rfl, hN.2⟩, fun x H'' hy => ?_⟩
    obtain ⟨gy, ry, d, hd, rvd⟩ := yl x H'' hy
    have hE2 : RE X.K H'' (D :: η) μ' ρ σ := ((hE.ext g1.ext).ext (ext_hidden gg hD)).ext gy.ext
    refine gS_run tg hs ry (re_wipe hE2 own) rvd (turn i d _ S' w hd) fun ρ2 σ2 e2 l2 k2 q2 => ⟨?_, ?_⟩
    · refine wipe_ext (by rw [l2, wipe_length]) fun j hj => ?_
      exact k2 j fun z => hj (hsl j z)
    · have hDy : H'' D = some (StD D xs) := (gy.keep D _ nt_std hDv (rr.hid D (by simp)).1).1
      refine useB e2 ry q2 fun b S3 μ3 H3 g3 r3 e3 q3 => ?_
      have hD3 : H3 D = some (StD D xs) := (g3.keep D _ nt_std hDy (ry.hid D (by simp)).1).1
      cases b with
      | true =>
        simp only [if_true] at q3 ⊢
        refine use e3 r3 q3 fun y S4 v4 μ4 H4 g4 r4 e4 rv4 q4 => ?_
        have hD4 : H4 D = some (StD D xs) := (g4.keep D _ nt_std hD3 (r3.hid D (by simp)).1).1
        refine use e4 r4 q4 fun z S5 v5 μ5 H5 g5 r5 e5 rv5 q5 => ?_
        have hD5 : H5 D = some (StD D xs) := (g5.keep D _ nt_std hD4 (r4.hid D (by simp)).1).1
        have gAll : Grow μ1 H1 μ5 H5 := (((gg.trans gy).trans g3).trans g4).trans g5
        obtain ⟨rfl, st, rfl, q6⟩ := q5
        have hK5 : Ks3 X.K H5 xs := ks3_grow g5 (ks3_grow g4 (ks3_grow g3 (ks3_grow gy hK)))
        cases rv5
        cases rv4.ext g5.ext with
        | tup hq1 qs =>
          have ev := k3_vals (st := st) qs
          subst ev
          refine ⟨xs, _, st, rfl, rfl, hD5, hK5, hq1, by omega, hlt, ks ++ [st], put3 xs st _, S5, μ5, grow_hidden gAll hD, rp_hsetO (fun _ z => nomatch z) (fun _ _ z => nomatch z) r5, upd_same, ?_, ?_, ?_, ?_⟩
          · exact (put3_ks hK5 hq1).ext (ext_hset r5)
          · rw [put3_map, hM, List.foldl_append]
            rfl
          · exact Nat.le_trans (put3_len ..) (Nat.succ_le_succ hn)
          · rw [List.map_append]
            exact q6
      | false =>
        simp only [Bool.false_eq_true, if_false] at q3 ⊢
        exact ⟨hlt, ks, xs, S3, μ3, (gg.trans gy).trans g3, r3, hD3, ks3_grow g3 (ks3_grow gy hK), hM, Nat.le_succ_of_le hn, q3⟩
  · left
    have hi' : i = items.length := by omega
    subst hi'
    refine ⟨jstop (Nat.le_refl _) (Nat.le_refl _), hQ _ _ ?_⟩
    have f := fin _ S' w ks rfl
    rw [← hM] at f
    refine ⟨_, _, _, g1.trans ⟨?_, fun a o t e n => ⟨(gg.keep a o t e n).1, fun z => ?_⟩, gg.tup, gg.frz⟩, rp_showCell3 hDη rr hDv hK, .ref (by rw [← rr.len]; simp), f⟩
    · obtain ⟨more, rfl⟩ := gg.pre
      exact ⟨more ++ [D], by simp⟩
    · rcases List.mem_append.mp z with z | z
      · exact (gg.keep a o t e n).2 z
      · exact ne_of_none e hD (by simpa using z)
section
variable {K : PySem.W.Frag} {η μ : List Addr} {S : DStore} {H : Hp}
theorem made_of {S1 : DStore} {H1 H' : Hp} {x : Addr} {v : V} {QD : QE} {Q : VK} (r1 : Rp K η μ S1 H) (gn : Grow μ H (μ ++ [x]) H1) (p : Post K η (μ ++ [x]) H1 (fun v S2 => v = .non ∧ QD (.ref S1.length) S2) v H')
    (hQ : ∀ v H', Post K η μ H QD v H' → Q v H') : v = .non ∧ Q (.ref x) H' := by
  obtain ⟨d, S', μ', g', r', rv', rfl, q⟩ := p
  cases rv'
  exact ⟨rfl, hQ _ _ ⟨.ref S1.length, S', μ', gn.trans g', r', (rv_cell (H' := H1) r1).ext g'.ext, q⟩⟩
end
section
variable {P : Program} {w : World} {K : PySem.W.Frag} {mg : Str → Option Value} {base : Heap} {T : Tb} {G : Fns} {k : Nat} {cn f : Str} {C : Addr}
theorem mk_of' (t : Tab P w K mg base k T G) (h : hasCls T cn = true) (hn : PySem.W.nsIn K mainGlobals cn = some (some (.ref C))) : mg cn = some (.ref C) ∧ Cls K C ∧ PySem.W.makesIn K C = true ∧ PySem.W.keepIn K (.ref C) = true := by
  obtain ⟨c, hc, e⟩ := List.any_eq_true.mp h
  obtain ⟨C', h1, h2, h3, _, h5, h6, _⟩ := t.cls c hc
  rw [eq_of_beq e] at h1 h2
  rw [hn] at h1; cases h1
  exact ⟨h2, h3, h5, h6⟩
theorem ne_of (t : Tab P w K mg base k T G) (h : hasNe T cn = true) (hn : PySem.W.nsIn K mainGlobals cn = some (some (.ref C))) : NeC K C := by
  obtain ⟨c, hc, e⟩ := List.any_eq_true.mp h
  simp only [Bool.and_eq_true, beq_iff_eq] at e
  obtain ⟨C', h1, _, _, _, _, _, _, h8⟩ := t.cls c hc
  rw [e.1] at h1
  rw [hn] at h1; cases h1
  exact h8 e.2
end
theorem exk_inst {X : Cx} {pins : List (Addr × Obj)} {σ : L2.St} {H : Hp} {s : Shared} {a C : Addr} {d : Option Addr} (I : Inv X pins σ H s) (ha : H a = some (exk a C d)) (hd : d = none ∨ ∃ dx fs, d = some dx ∧ H dx = some (.xd fs)) : ∃ oe od, PySem.W.InstAt s.heap a oe C od := by
  obtain ⟨⟨oe, vs, e, z, dd⟩, _⟩ := (show ObjOk X.prog X.w H s.heap a (exk a C d) from I.hok a _ ha)
  have nc : PySem.W.notCls oe = true := by unfold PySem.W.notCls; rw [dd] <;> rfl
  rcases hd with rfl | ⟨dx, fs, rfl, hx⟩
  · exact ⟨oe, none, e, z.1, nc, by rw [z.2]; trivial⟩
  · obtain ⟨mA, hns, hr⟩ := (show ObjOk X.prog X.w H s.heap dx (.xd fs) from I.hok dx _ hx)
    obtain ⟨od, ho, hl⟩ := lookIn_ns hns
    exact ⟨oe, some od, e, z.1, nc, by rw [z.2]; exact ho⟩
/-- isinstance(x, c), x a kept exception -/
noncomputable def rIsK (K : PySem.W.Frag) : List V → Hp → VK → Prop := fun xs H Q => ∃ (a C : Addr) (d : Option Addr) (c : V) (cv : Value) (b : Bool), xs = [.ref a, c] ∧ H a = some (exk a C d) ∧ (d = none ∨ ∃ dx fs, d = some dx ∧ H dx = some (.xd fs)) ∧ excCB K C = true ∧ ClsV c cv ∧
  PySem.W.kitOne K (.ref C) cv = some b ∧ Q (.bl b) H
/-- isinstance(x, (c1, c2, ..)), x a kept exception -/
noncomputable def rIsKT (K : PySem.W.Frag) : List V → Hp → VK → Prop := fun xs H Q => ∃ (a C : Addr) (d : Option Addr) (tp : Addr) (cs : List V) (us : List Value) (b : Bool), xs = [.ref a, .ref tp] ∧ H a = some (exk a C d) ∧ (d = none ∨ ∃ dx fs, d = some dx ∧ H dx = some (.xd fs)) ∧ excCB K C = true ∧
  H tp = some (.tup cs) ∧ Paired ClsV cs us ∧ PySem.W.kitAny K (.ref C) us = some b ∧ Q (.bl b) H
section
variable {X : Cx}
theorem kit_exk {C a : Addr} {oe : Obj} {od : Option Obj} (h : excCB X.K C = true) : PySem.W.KitX X.K (.ref a) (.ref C) (fun hp => PySem.W.InstAt hp a oe C od) := by
  unfold excCB at h
  simp only [Bool.and_eq_true, decide_eq_true_eq] at h
  obtain ⟨⟨⟨⟨⟨⟨⟨h1, h2⟩, h3⟩, h4⟩, h5⟩, h6⟩, h7⟩, h8⟩ := h
  exact PySem.W.kitx_exc h4 h1 h2 h3 h5 h6 h7 h8
theorem call_isK : CallR X (.builtin "isinstance") (rIsK X.K) := by
  intro pins s σ H xs us Q I r h
  obtain ⟨a, C, d, c, cv, b, rfl, ha, hd, hC, k, e, q⟩ := h
  obtain ⟨u1, u2, rfl, r1, r2⟩ := vals2 r
  have e2 := k.eq r2
  subst e2
  cases (show u1 = Value.ref a from r1)
  obtain ⟨oe, od, J⟩ := exk_inst I ha hd
  exact PySem.W.kia_one (kit_exk hC) I.kIn J e (fun z => nomatch z) fun tk => ⟨.bl b, H, I.tok tk, rfl, q⟩
theorem call_isKT : CallR X (.builtin "isinstance") (rIsKT X.K) := by
  intro pins s σ H xs us Q I r h
  obtain ⟨a, C, d, tp, cs, ws, b, rfl, ha, hd, hC, hT, k, e, q⟩ := h
  obtain ⟨u1, u2, rfl, r1, r2⟩ := vals2 r
  cases (show u1 = Value.ref a from r1)
  cases (show u2 = Value.ref tp from r2)
  obtain ⟨oe, od, J⟩ := exk_inst I ha hd
  obtain ⟨_, its, rv, ⟨oc, odd, dt, sl⟩, z1, z2, n, z3⟩ := (show ObjOk X.prog X.w H s.heap tp (.tup cs) from I.hok tp _ hT)
  obtain rfl := ClsV.all k rv
  simp only at z2 z3
  subst z2 z3
  exact PySem.W.kia_tup (kit_exk hC) I.kIn J z1 e (fun z => nomatch z) fun tk => ⟨.bl b, H, I.tok tk, rfl, q⟩
end
end DL
set_option maxHeartbeats 4000000
namespace DL
open PySem PySem.Spec PyProof.Rows L2
section
variable {T : Tb} {G : Fns} {k : Nat} {N : List Str}
theorem bi_val (b : BI) : (∃ id, b.val = .builtin id) ∨ ∃ t, b.val = .type t := by cases b <;> first | exact .inl ⟨_, rfl⟩ | exact .inr ⟨_, rfl⟩
theorem pe_bi {X : Cx} {b : BI} {e : Expr} {es : List Expr} {t : TA} {p pos : Pos} {r : List V → Hp → VK → Prop} (hc : CallR X b.val r) (hg : Gl X b.name) (hm : X.mg b.name = none) (ha : PA X (e :: es) t)
    (he : starEach (e :: es) X.env = (false, eval e X.env) :: starEach es X.env) (hpl : (backTo pos (starEach es X.env)).any (·.1) = false) : PE X (.Call (.Name b.name p) (e :: es) [] pos) (tCB r t) := by
  have hb := b.boot
  rcases bi_val b with ⟨id, ev⟩ | ⟨id, ev⟩
  · rw [ev] at hc hb
    exact pe_callB hc hg hm hb ha b.nm.1 b.nm.2 he hpl
  · rw [ev] at hc hb
    exact pe_callTy hc hg hm hb ha b.nm.1 b.nm.2 he hpl
theorem pairs_of {c : CI} {e : Expr} (h : (!c.pairs || isTupE e) = true) : c.pairs = true → isTupE e = true := by
  cases hc : c.pairs <;> simp_all
theorem pg_or {X : Cx} {e : Expr} {g1 g2 : TG} (h1 : PG X e g1) (h2 : PG X e g2) : PG X e (fun v σ H Q => g1 v σ H Q ∨ g2 v σ H Q) :=
  ⟨fun pins s σ H v u Q I r hw => hw.elim (fun h => h1.run pins s σ H v u Q I r h) fun h => h2.run pins s σ H v u Q I r h⟩
theorem lits {α : Type} [BEq α] [LawfulBEq α] {o : Option α} {x : α} (h : (o == some x) = true) : o = some x := by simpa using h
theorem okEs_cons {sc : SS} {cs : List CE} {e : Expr} {es : List Expr} (h : okEs T N sc cs (e :: es) = true) : (∃ c, okE T N sc c e = true) ∧ ∃ cs', okEs T N sc cs' es = true := by
  cases cs with
  | nil => simp [okEs] at h
  | cons c cs => simp only [okEs, Bool.and_eq_true] at h; exact ⟨⟨c, h.1⟩, cs, h.2⟩
theorem pa1 {X : Cx} {e : Expr} {T : TD} (h : PE X e (tOf X.K T)) (hs : starEach [e] X.env = (false, eval e X.env) :: starEach [] X.env) : PA X [e] (aOf X.K 1 (fun ρ S Q => T ρ S fun d S1 => Q [d] S1)) :=
  PA.imp (pa_cons h pa_nil hs) fun σ H Q ⟨η, μ, ρ, S, QD, hE, hR, hT, hQ⟩ => use hE hR hT fun d S1 v μ1 H1 g1 r1 e1 rv1 q1 => hQ _ _ ⟨[d], S1, μ1, g1, r1, .cons rv1 .nil, q1⟩ rfl
theorem pa2 {X : Cx} {e e' : Expr} {T T' : TD} (h : PE X e (tOf X.K T)) (h' : PE X e' (tOf X.K T')) (hs : starEach [e, e'] X.env = (false, eval e X.env) :: starEach [e'] X.env) (hs' : starEach [e'] X.env = (false, eval e' X.env) :: starEach [] X.env) :
    PA X [e, e'] (aOf X.K 2 (fun ρ S Q => T ρ S fun d S1 => T' ρ S1 fun d' S2 => Q [d, d'] S2)) :=
  PA.imp (pa_cons h (pa_cons h' pa_nil hs') hs) fun σ H Q ⟨η, μ, ρ, S, QD, hE, hR, hT, hQ⟩ => use hE hR hT fun d S1 v μ1 H1 g1 r1 e1 rv1 q1 => use e1 r1 q1 fun d2 S2 v2 μ2 H2 g2 r2 e2 rv2 q2 =>
    hQ _ _ ⟨[d, d2], S2, μ2, g1.trans g2, r2, .cons (rv1.ext g2.ext) (.cons rv2 .nil), q2⟩ rfl
theorem kes_len {sc : SS} : ∀ {cs : List CE} {ks : List Keyword}, okKs T N sc cs ks = true → cs.length = ks.length ∧ (kwNames ks).length = ks.length
  | [], [], _ => ⟨rfl, rfl⟩
  | [], _ :: _, h => by simp [okKs] at h
  | _ :: _, [], h => by simp [okKs] at h
  | c :: cs, ⟨n, e, p⟩ :: ks, h => by
    simp only [okKs, Bool.and_eq_true] at h
    obtain ⟨a, b⟩ := kes_len h.2
    exact ⟨by simp [a], by simp [kwNames, b]⟩
theorem sI_fold {sc : SS} {env : Env} (c : CI) (e : Expr) (h : okI T N sc c e = true) : ∀ x, foldedSetIterable e env x = pure x := by
  cases e <;> first | (intro x; rfl) | (exfalso; cases c <;> first | exact (Bool.false_ne_true h).elim | exact no_set h)
theorem one_of {ds : List D} {vs : List V} {K : PySem.W.Frag} {H : Hp} {η μ : List Addr} (r : RVs K H η μ ds vs) (h : vs.length = 1) : ∃ d v, ds = [d] ∧ vs = [v] ∧ RV K H η μ d v := by
  cases r with
  | nil => simp at h
  | cons a b => cases b with
    | nil => exact ⟨_, _, rfl, rfl, a⟩
    | cons c d => simp at h
theorem two_of {ds : List D} {vs : List V} {K : PySem.W.Frag} {H : Hp} {η μ : List Addr} (r : RVs K H η μ ds vs) (h : vs.length = 2) : ∃ d d' v v', ds = [d, d'] ∧ vs = [v, v'] ∧ RV K H η μ d v ∧ RV K H η μ d' v' := by
  cases r with
  | nil => simp at h
  | cons a b =>
    obtain ⟨d, v, rfl, rfl, r⟩ := one_of b (by simpa using h)
    exact ⟨_, _, _, _, rfl, rfl, a, r⟩
theorem rg_rvL {K : PySem.W.Frag} {H : Hp} {η μ : List Addr} (i : Int) : ∀ l : List Nat, RVs K H η μ (l.map fun (k : Nat) => D.int (i + k)) (l.map fun (k : Nat) => V.int (i + (k : Nat)))
  | [] => .nil
  | k :: l => .cons (.int _) (rg_rvL i l)
theorem rg_rv {K : PySem.W.Frag} {H : Hp} {η μ : List Addr} (i j : Int) : RVs K H η μ (rangeD i j) (rgV i j) := rg_rvL i _
theorem kit_at {K : PySem.W.Frag} {mg : Str → Option Value} {xs : List Str} (h : XAll K mg xs) {x : Str} (hx : x ∈ xs) : (x = ("ValueError" : Str) ∧ kitV K x = some (.type "ValueError")) ∨ (x = ("LookupError" : Str) ∧ kitV K x = some (.type "LookupError")) ∨
    ∃ C, kitV K x = some (.ref C) ∧ mg x = some (.ref C) ∧ x ≠ ("ValueError" : Str) ∧ x ≠ ("LookupError" : Str) := by
  by_cases c1 : x = ("ValueError" : Str)
  · exact .inl ⟨c1, by unfold kitV; rw [if_pos c1]⟩
  · by_cases c2 : x = ("LookupError" : Str)
    · exact .inr (.inl ⟨c2, by unfold kitV; rw [if_neg c1, if_pos c2]⟩)
    · rcases h.ns x hx with z | z | ⟨C, z1, z2⟩
      · exact absurd z c1
      · exact absurd z c2
      · exact .inr (.inr ⟨C, by unfold kitV; rw [if_neg c1, if_neg c2, z1], z2, c1, c2⟩)
theorem isn_1 {X : Cx} {sc : SS} (hx : Here T G k N X sc) {y c : Str} (h : okI1 T sc y c = true) (A : XAll X.K X.mg T.x.isn) : ∃ v u, (∀ p : Pos, PE X (.Name y p) (tC v)) ∧ ClsV v u ∧ kitV X.K c = some u ∧ c ∈ T.x.isn := by
  unfold okI1 at h
  simp only [Bool.and_eq_true, beq_iff_eq, List.contains_iff_mem] at h
  obtain ⟨⟨⟨⟨rfl, h2⟩, h3⟩, h4⟩, h5⟩ := h
  rcases kit_at A h4 with ⟨rfl, q⟩ | ⟨rfl, q⟩ | ⟨C, q, m, n1, n2⟩
  · have hb := hx.tab.bi _ (by simpa using h5)
    exact ⟨.ty "ValueError", _, fun p => pe_bltn (u := .type _) (gl_of hx h2) hb (by decide +kernel) rfl, .ty _, q, h4⟩
  · have hb := hx.tab.bi _ (by simpa using h5)
    exact ⟨.ty "LookupError", _, fun p => pe_bltn (u := .type _) (gl_of hx h2) hb (by decide +kernel) rfl, .ty _, q, h4⟩
  · exact ⟨.ref C, _, fun p => pe_glob (gl_of hx h2) m rfl (dbg_of h3).1, .own C, q, h4⟩
theorem isn_xa {X : Cx} {sc : SS} (hx : Here T G k N X sc) (h : T.x.isn ≠ []) : XAll X.K X.mg T.x.isn := (hx.tab.xa).resolve_left h
theorem isn_pa {X : Cx} {sc : SS} (hx : Here T G k N X sc) : ∀ {es : List Expr} {cs : List Str}, okIs T sc es cs = true → XAll X.K X.mg T.x.isn ∧ ∃ t vs us, PA X es t ∧ (∀ σ H Q, Q vs H → t σ H Q) ∧ Paired ClsV vs us ∧ vs.length = cs.length ∧
    ∀ c C, c ∈ xnm → PySem.W.nsIn X.K mainGlobals c = some (some (.ref C)) → PySem.W.kitAny X.K (.ref C) us = some (cs.any (isX c))
  | [], [], h => by
    have hn : T.x.isn ≠ [] := fun z => by unfold okIs at h; rw [z] at h; cases h
    exact ⟨isn_xa hx hn, _, [], [], pa_nil, fun _ _ _ q => q, .nil, rfl, fun _ _ _ _ => rfl⟩
  | [], _ :: _, h => by simp [okIs] at h
  | e :: _, [], h => by cases e <;> simp [okIs] at h
  | e :: es, c :: cs, h => by
    cases e <;> first | (exact (Bool.false_ne_true h).elim) | skip
    rename_i y py
    change (_ && _) = true at h
    simp only [Bool.and_eq_true] at h
    obtain ⟨A, t, vs, us, pa, q, pr, hl, hk⟩ := isn_pa hx h.2
    obtain ⟨v, u, pe, kv, ku, hc⟩ := isn_1 hx h.1 A
    refine ⟨A, _, v :: vs, u :: us, pa_cons (pe py) pa rfl, fun σ H Q z => q σ H _ z, .cons kv pr, by simp [hl], fun c' C m n => ?_⟩
    obtain ⟨u', ku', k1⟩ := (A.at m n).2.1 c hc
    rw [ku] at ku'
    cases ku'
    rw [List.any_cons]
    exact L2.kitAny_cons k1 (fun hb => by rw [hk c' C m n, hb, Bool.false_or]) (fun hb => by rw [hb, Bool.true_or])
theorem exn_of {K : PySem.W.Frag} {η μ : List Addr} {S : DStore} {H : Hp} (r : Rp K η μ S H) {n : Nat} {c : Str} {ds : List D} {v : V} (rv : RV K H η μ (.ref n) v) (h : S[n]? = some (.exn c ds)) :
    ∃ a C d vs, v = .ref a ∧ PySem.W.nsIn K mainGlobals c = some (some (.ref C)) ∧ H a = some (exk a C d) ∧ RVs K H η μ ds vs ∧ c ∈ xnm ∧ XFk c vs d H η μ := by
  cases rv with
  | @ref n a hn =>
    obtain ⟨a', ha', C, d, vs, h1, h2, h3, h4, h5⟩ := r.cell n _ h
    rw [hn] at ha'
    cases ha'
    exact ⟨a, C, d, vs, rfl, h1, h2, h3, h4, h5⟩
theorem xfk_d {c : Str} {vs : List V} {d : Option Addr} {H : Hp} {η μ : List Addr} (h : XFk c vs d H η μ) : d = none ∨ ∃ dx fs, d = some dx ∧ H dx = some (.xd fs) := by
  rcases h with ⟨_, _, h⟩ | ⟨f, v, dx, _, _, h3, h4, _⟩
  · exact .inl h
  · exact .inr ⟨dx, _, h3, h4⟩
mutual
theorem sE : ∀ (c : CE) {X : Cx} {sc : SS} (e : Expr), Here T G k N X sc → okE T N sc c e = true → DE X e (wpE G c)
  | .var i, X, sc, e, hx, h => by
    cases e <;> first | (exact (Bool.false_ne_true h).elim) | skip
    change (_ && _) = true at h
    simp only [Bool.and_eq_true] at h
    obtain ⟨⟨h1, h2⟩, h3⟩ := h
    refine DE.mk (pe_var (i := i) (by rw [hx.nm]; exact lits h2) (by rw [hx.scp]; exact vis_of h1) (dbg_of h3).1 (dbg_of h3).2) fun η μ ρ S σ H Q QD hE hR hT hQ => ?_
    simp only [wpE] at hT
    obtain ⟨d, e, q⟩ := hT
    obtain ⟨v, ev, rv⟩ := hE.get i d e
    exact ⟨v, ev, hQ _ _ (stay hR rv q)⟩
  | .con c, X, sc, e, hx, h => by
    cases e <;> first | (exact (Bool.false_ne_true h).elim) | skip
    rename_i kk _ _
    change okC c kk = true at h
    cases c <;> cases kk <;> first | (exact (Bool.false_ne_true h).elim) | skip
    · exact DE.mk pe_non fun η μ ρ S σ H Q QD hE hR hT hQ => hQ _ _ (stay hR .non (by simpa only [wpE, CC.d] using hT))
    · simp only [okC, beq_iff_eq] at h; subst h
      exact DE.mk pe_bl fun η μ ρ S σ H Q QD hE hR hT hQ => hQ _ _ (stay hR (.bl _) (by simpa only [wpE, CC.d] using hT))
    · simp only [okC, beq_iff_eq] at h; subst h
      exact DE.mk pe_int fun η μ ρ S σ H Q QD hE hR hT hQ => hQ _ _ (stay hR (.int _) (by simpa only [wpE, CC.d] using hT))
    · simp only [okC, beq_iff_eq] at h; subst h
      exact DE.mk pe_str fun η μ ρ S σ H Q QD hE hR hT hQ => hQ _ _ (stay hR (.str _) (by simpa only [wpE, CC.d] using hT))
  | .bin op m a b, X, sc, e, hx, h => by
    cases e <;> first | (exact (Bool.false_ne_true h).elim) | skip
    change (_ && _) = true at h
    simp only [Bool.and_eq_true, beq_iff_eq] at h
    obtain ⟨⟨h1, h2⟩, h3⟩ := h
    subst h1
    obtain ⟨r, ho, hr⟩ := binR (X := X) op
    refine DE.mk (pe_op ho (sE a _ hx h2) (sE b _ hx h3)) fun η μ ρ S σ H Q QD hE hR hT hQ => ?_
    simp only [wpE] at hT
    refine use hE hR hT fun d S1 v μ1 H1 g1 r1 e1 rv1 q1 => use e1 r1 q1 fun d2 S2 v2 μ2 H2 g2 r2 e2 rv2 q2 => ?_
    exact hr r2 (rv1.ext g2.ext) rv2 q2 fun v H' p => hQ _ _ ((p.from g2).from g1)
  | .neg a, X, sc, e, hx, h => by
    cases e <;> first | (exact (Bool.false_ne_true h).elim) | skip
    rename_i op x p
    cases op <;> first | (exact (Bool.false_ne_true h).elim) | skip
    refine DE.mk (pe_un un_neg (sE a x hx h)) fun η μ ρ S σ H Q QD hE hR hT hQ => ?_
    simp only [wpE] at hT
    refine use hE hR hT fun d S1 v μ1 H1 g1 r1 e1 rv1 q1 => ?_
    obtain ⟨i, rfl, q⟩ := q1
    cases rv1
    exact ⟨_, rfl, hQ _ _ ((stay r1 (.int _) q).from g1)⟩
  | .cmp op a b, X, sc, e, hx, h => by
    cases e <;> first | (exact (Bool.false_ne_true h).elim) | skip
    rename_i l ops cs p
    match ops, cs, h with
    | [op'], [b'], h =>
      change (_ && _) = true at h
      simp only [Bool.and_eq_true, beq_iff_eq] at h
      obtain ⟨⟨h1, h2⟩, h3⟩ := h
      subst h1
      obtain ⟨r, ho, hr⟩ := cmpR (X := X) hx.room.units op
      refine DE.mk (pe_cmpR ho (sE a _ hx h2) (sE b _ hx h3) (mark_of h3)) fun η μ ρ S σ H Q QD hE hR hT hQ => ?_
      simp only [wpE] at hT
      refine use hE hR hT fun d S1 v μ1 H1 g1 r1 e1 rv1 q1 => use e1 r1 q1 fun d2 S2 v2 μ2 H2 g2 r2 e2 rv2 q2 => ?_
      exact hr r2 (rv1.ext g2.ext) rv2 q2 fun b hb => hQ _ _ (((stay r2 (.bl b) hb).from g2).from g1)
    | [], _, h => exact (Bool.false_ne_true h).elim
    | [_], [], h => exact (Bool.false_ne_true h).elim
    | [_], _ :: _ :: _, h => exact (Bool.false_ne_true h).elim
    | _ :: _ :: _, _, h => exact (Bool.false_ne_true h).elim
  | .ite t a b, X, sc, e, hx, h => by
    cases e <;> first | (exact (Bool.false_ne_true h).elim) | skip
    change (_ && _) = true at h
    simp only [Bool.and_eq_true] at h
    refine DE.mk (pe_ifExp (sB t _ hx h.1.1) (sE a _ hx h.1.2) (sE b _ hx h.2)) fun η μ ρ S σ H Q QD hE hR hT hQ => ?_
    simp only [wpE] at hT
    refine useB hE hR hT fun c S1 μ1 H1 g1 r1 e1 q1 => ?_
    cases c with
    | true =>
      simp only [if_true] at q1 ⊢
      exact ⟨_, _, _, _, _, e1, r1, q1, fun v H' p => hQ _ _ (p.from g1)⟩
    | false =>
      simp only [Bool.false_eq_true, if_false] at q1 ⊢
      exact ⟨_, _, _, _, _, e1, r1, q1, fun v H' p => hQ _ _ (p.from g1)⟩
  | .tup es, X, sc, e, hx, h => by
    cases e <;> first | (exact (Bool.false_ne_true h).elim) | skip
    change (_ && _) = true at h
    simp only [Bool.and_eq_true, decide_eq_true_eq] at h
    refine DE.mk (pe_tup (sEs es _ hx h.1)) fun η μ ρ S σ H Q QD hE hR hT hQ => ?_
    simp only [wpE] at hT
    refine useA hE hR hT fun ds S1 vs μ1 H1 g1 r1 e1 rv1 hl q1 => ⟨?_, fun p hp => hQ _ _ ((new_tup r1 rv1 q1 p hp).from g1)⟩
    have : (1000 : Nat) ≤ sizeLine := by decide
    omega
  | .lst m es, X, sc, e, hx, h => by
    cases e <;> first | (exact (Bool.false_ne_true h).elim) | skip
    change (_ && _) = true at h
    simp only [Bool.and_eq_true, decide_eq_true_eq] at h
    refine DE.mk (pe_lst (sEs es _ hx h.1)) fun η μ ρ S σ H Q QD hE hR hT hQ => ?_
    simp only [wpE] at hT
    refine useA hE hR hT fun ds S1 vs μ1 H1 g1 r1 e1 rv1 hl q1 => ⟨?_, fun p hp => hQ _ _ ((new_lst r1 rv1 q1 p hp).from g1)⟩
    have : (1000 : Nat) ≤ sizeLine := by decide
    omega
  | .ix a i, X, sc, e, hx, h => by
    cases e <;> first | (exact (Bool.false_ne_true h).elim) | skip
    change (_ && _) = true at h
    simp only [Bool.and_eq_true] at h
    refine DE.mk (pe_ix (ix_seq.or (ix_dictS (by have := hx.room.units; omega))) (sE a _ hx h.1.1) (sE i _ hx h.1.2) (plain_of h.2)) fun η μ ρ S σ H Q QD hE hR hT hQ => ?_
    simp only [wpE] at hT
    refine use hE hR hT fun d S1 v μ1 H1 g1 r1 e1 rv1 q1 => use e1 r1 q1 fun d2 S2 v2 μ2 H2 g2 r2 e2 rv2 q2 => ?_
    exact ix_of r2 (rv1.ext g2.ext) rv2 q2 fun d v rv q => hQ _ _ (((stay r2 rv q).from g2).from g1)
  | .call j es, X, sc, e, hx, h => by
    cases e <;> first | (exact (Bool.false_ne_true h).elim) | skip
    rename_i f as ks p
    cases f <;> first | (exact (Bool.false_ne_true h).elim) | skip
    cases ks with
    | cons _ _ => exact (Bool.false_ne_true h).elim
    | nil =>
      change (_ && _) = true at h
      simp only [Bool.and_eq_true] at h
      obtain ⟨⟨⟨h1, h2⟩, h3⟩, h4⟩ := h
      split at h4
      · rename_i i hi
        simp only [Bool.and_eq_true, beq_iff_eq, Bool.not_eq_true', Option.isNone_iff_eq_none] at h4
        obtain ⟨⟨h4, hko⟩, hcl⟩ := h4
        subst h4
        obtain ⟨f, fd, ⟨F0, _⟩, ⟨hm0, _⟩, hk, hb0, _⟩ := hx.tab.fn j i hi
        have F := F0.mono (Nat.sub_le k i.up)
        have hm := hm0 hcl
        have hb := hb0 hko
        cases as with
        | nil =>
          cases es with
          | cons _ _ => simp [okEs] at h3
          | nil =>
            refine DE.mk (pe_callG0 F hx.room hx.gd (gl_of hx h1) hm hk hb pk_nil rfl rfl (dbg_of h2).1 rfl) fun η μ ρ S σ H Q QD hE hR hT hQ => ?_
            simp only [wpE, wpEs] at hT
            exact ⟨η, μ, S, [], QD, hR, .nil, hT, fun v H' p => hQ _ _ p⟩
        | cons e' es' =>
          obtain ⟨⟨c0, h31⟩, _⟩ := okEs_cons h3
          refine DE.mk (pe_callG F hx.room hx.gd (gl_of hx h1) hm hk hb (sEs es _ hx h3) pk_nil rfl rfl (dbg_of h2).1 (star_of h31) (by rw [stars_of h3]; rfl)) fun η μ ρ S σ H Q QD hE hR hT hQ => ?_
          simp only [wpE] at hT
          refine useA hE hR hT fun ds S1 vs μ1 H1 g1 r1 e1 rv1 hl q1 => ?_
          exact ⟨η, μ1, S1, ds, QD, r1, rv1, q1, fun v H' p => hQ _ _ (p.from g1)⟩
      · cases h4
  | .callK j es kes perm, X, sc, e, hx, h => by
    cases e <;> first | (exact (Bool.false_ne_true h).elim) | skip
    rename_i f as ks p
    cases f <;> first | (exact (Bool.false_ne_true h).elim) | skip
    change (_ && _) = true at h
    simp only [Bool.and_eq_true] at h
    obtain ⟨⟨⟨⟨h1, h2⟩, h3⟩, h5⟩, h4⟩ := h
    split at h4
    · rename_i i hi
      simp only [Bool.and_eq_true, beq_iff_eq, List.any_eq_true, Option.isNone_iff_eq_none] at h4
      obtain ⟨⟨h6, hcl⟩, pp, hp, h7, h8⟩ := h4
      subst h6; subst h8
      obtain ⟨f, fd, ⟨F0, _⟩, ⟨hm0, _⟩, hk, _, hb⟩ := hx.tab.fn j i hi
      have F := F0.mono (Nat.sub_le k i.up)
      have hm := hm0 hcl
      have K1 := kws_of (pos := p) (env := X.env) h5
      have hks : (backToKw p (keywordEach ks X.env)).filterMap (·.1) = pp.1 := filterMap_names _ _ (by rw [K1.2.2, h7])
      have hkl : kes.length = pp.1.length := by
        obtain ⟨z1, z2⟩ := kes_len h5
        rw [← h7, List.length_map] at z2
        omega
      cases as with
      | nil =>
        cases es with
        | cons _ _ => simp [okEs] at h3
        | nil =>
          refine DE.mk (pe_callG0 F hx.room hx.gd (gl_of hx h1) hm hk (hb pp hp) (sKs kes _ hx h5) K1.1 hks (dbg_of h2).1 (by rw [K1.2.1]; rfl)) fun η μ ρ S σ H Q QD hE hR hT hQ => ?_
          simp only [wpE, wpEs] at hT
          refine useA hE hR hT fun ds S1 vs μ1 H1 g1 r1 e1 rv1 hl q1 => ?_
          refine ⟨η, μ1, S1, _, QD, r1, ?_, q1, fun v H' p => hQ _ _ (p.from g1)⟩
          unfold gK
          rw [if_pos (by rw [hl]; exact hkl)]
          exact RVs.append .nil (perm_of rv1 pp.2)
      | cons e' es' =>
        obtain ⟨⟨c0, h31⟩, _⟩ := okEs_cons h3
        refine DE.mk (pe_callG F hx.room hx.gd (gl_of hx h1) hm hk (hb pp hp) (sEs es _ hx h3) (sKs kes _ hx h5) K1.1 hks (dbg_of h2).1 (star_of h31) (by rw [stars_of h3, K1.2.1]; rfl)) fun η μ ρ S σ H Q QD hE hR hT hQ => ?_
        simp only [wpE] at hT
        refine useA hE hR hT fun ds S1 vs μ1 H1 g1 r1 e1 rv1 hl q1 => useA e1 r1 q1 fun ds2 S2 vs2 μ2 H2 g2 r2 e2 rv2 hl2 q2 => ?_
        refine ⟨η, μ2, S2, _, QD, r2, ?_, q2, fun v H' p => hQ _ _ ((p.from g2).from g1)⟩
        unfold gK
        rw [if_pos (by rw [hl2]; exact hkl)]
        exact (rv1.ext g2.ext).append (perm_of rv2 pp.2)
    · cases h4
  | .bi b m es, X, sc, e, hx, h => by
    cases e <;> first | (exact (Bool.false_ne_true h).elim) | skip
    rename_i f as ks p
    cases f <;> first | (exact (Bool.false_ne_true h).elim) | skip
    cases as with
    | nil => exact (Bool.false_ne_true h).elim
    | cons e' es' =>
      cases ks with
      | cons _ _ => exact (Bool.false_ne_true h).elim
      | nil =>
        change (_ && _) = true at h
        simp only [Bool.and_eq_true, beq_iff_eq] at h
        obtain ⟨⟨⟨h1, h2⟩, h4⟩, h3⟩ := h
        subst h2
        obtain ⟨⟨c0, h31⟩, cs0, h32⟩ := okEs_cons h3
        obtain ⟨r, hc, hr⟩ := biR (X := X) hx.calm hx.gd hx.room.units b
        refine DE.mk (pe_bi hc (gl_of hx h1) (hx.tab.bi _ (by simpa using h4)) (sEs es _ hx h3) (star_of h31) (stars_of h32)) fun η μ ρ S σ H Q QD hE hR hT hQ => ?_
        simp only [wpE] at hT
        refine useA hE hR hT fun ds S1 vs μ1 H1 g1 r1 e1 rv1 hl q1 => ?_
        exact hr r1 rv1 q1 fun v H' p => hQ _ _ (p.from g1)
  | .dnew, X, sc, e, hx, h => by
    cases e <;> first | (exact (Bool.false_ne_true h).elim) | skip
    rename_i ks vs p
    cases ks <;> cases vs <;> first | (exact (Bool.false_ne_true h).elim) | skip
    refine DE.mk pe_dnewT fun η μ ρ S σ H Q QD hE hR hT hQ => ?_
    simp only [wpE] at hT
    intro p hp
    exact hQ _ _ ⟨_, _, _, grow_cell hR hp, rp_cellD hR hp .nil, rv_cell hR, hT⟩
  | .dnew1 es v, X, sc, e, hx, h => by
    cases e <;> first | (exact (Bool.false_ne_true h).elim) | skip
    rename_i ks vs p
    match ks, vs, h with
    | [some (.Tuple es' tk tp)], [v'], h =>
      change (_ && _) = true at h
      simp only [Bool.and_eq_true, decide_eq_true_eq] at h
      obtain ⟨⟨h1, h2⟩, h3⟩ := h
      refine DE.mk (pe_disp1 hx.room.units (pe_tup (sEs es _ hx h1)) (sE v _ hx h3)) fun η μ ρ S σ H Q QD hE hR hT hQ => ?_
      simp only [wpE] at hT
      intro p hp
      have g0 := grow_cell (o := .dT []) hR hp
      have r0 := rp_cellD hR hp .nil
      refine useA (hE.ext g0.ext) r0 hT fun ys S1 vs μ1 H1 g1 r1 e1 rv1 hl q1 => ⟨?_, fun p1 hp1 => ?_⟩
      · have : (1000 : Nat) ≤ sizeLine := by decide
        omega
      have g2 := grow_new (o := .tup vs) r1 hp1
      have r2 := rp_new (o := .tup vs) r1 hp1
      refine use (e1.ext g2.ext) r2 q1 fun z S2 w μ2 H2 g3 r3 e3 rv3 q2 => ?_
      obtain ⟨ks, hk, hc, q⟩ := q2
      have rvp : RV X.K H2 η μ2 (.ref S.length) (.ref p) := (((rv_cell hR).ext g1.ext).ext g2.ext).ext g3.ext
      have eb : vs = ks.map kV := keysOf_rv rv1 hk
      have rvp' := rvp
      cases rvp' with
      | ref hn =>
        obtain ⟨a', ha', ws, hw, qs⟩ := r3.cell _ _ hc
        rw [hn] at ha'; cases ha'
        cases qs
        refine ⟨hw, p1, ks, rfl, by rw [← eb]; exact g3.tup _ _ upd_same, ?_⟩
        have gg := grow_set (o := .dT [(ks, w)]) r3 hn hw
        exact hQ _ _ ⟨_, _, _, (((g0.trans g1).trans g2).trans g3).trans gg, rp_setD r3 hn hw (.cons rv3 .nil), rvp.ext gg.ext, q⟩
    | [], _, h => exact (Bool.false_ne_true h).elim
    | _ :: _ :: _, _, h => exact (Bool.false_ne_true h).elim
    | [_], [], h => exact (Bool.false_ne_true h).elim
    | [_], _ :: _ :: _, h => exact (Bool.false_ne_true h).elim
  | .ktup es, X, sc, e, hx, h => by
    cases e <;> first | (exact (Bool.false_ne_true h).elim) | skip
    change (_ && _) = true at h
    simp only [Bool.and_eq_true, decide_eq_true_eq] at h
    refine DE.mk (pe_tup (sEs es _ hx h.1)) fun η μ ρ S σ H Q QD hE hR hT hQ => ?_
    simp only [wpE] at hT
    refine useA hE hR hT fun ds S1 vs μ1 H1 g1 r1 e1 rv1 hl q1 => ⟨?_, fun p hp => ?_⟩
    · have : (1000 : Nat) ≤ sizeLine := by decide
      omega
    obtain ⟨ks, hk, q⟩ := q1
    have eb : vs = ks.map kV := keysOf_rv rv1 hk
    exact hQ _ _ ⟨.key ks, S1, μ1, g1.trans (grow_new r1 hp), rp_new r1 hp, .key (by rw [← eb]; exact upd_same), q⟩
  | .lrg m a b, X, sc, e, hx, h => by
    cases e <;> first | (exact (Bool.false_ne_true h).elim) | skip
    rename_i f as ks p
    cases f <;> first | (exact (Bool.false_ne_true h).elim) | skip
    match as, ks, h with
    | [z], [], h =>
      cases z <;> first | (exact (Bool.false_ne_true h).elim) | skip
      rename_i f2 as2 ks2 p2
      cases f2 <;> first | (exact (Bool.false_ne_true h).elim) | skip
      rename_i y2 py2
      match as2, ks2, h with
      | [a', b'], [], h =>
        change (_ && _) = true at h
        simp only [Bool.and_eq_true, beq_iff_eq] at h
        obtain ⟨⟨⟨⟨⟨⟨⟨h1, h2⟩, h3⟩, h4⟩, h5⟩, h6⟩, h7⟩, h8⟩ := h
        subst h1 h4
        refine DE.mk (pe_listRg hx.calm (gl_of hx h2) (hx.tab.bi _ (by simpa using h3)) (prg_2 (gl_of hx h5) (hx.tab.bi _ (by simpa using h6)) (sE a a' hx h7) (sE b b' hx h8) (star_of h7) (star_of h8) (by rw [star_of h8]; rfl))) fun η μ ρ S σ H Q QD hE hR hT hQ => ?_
        simp only [wpE] at hT
        refine use hE hR hT fun d S1 v μ1 H1 g1 r1 e1 rv1 q1 => use e1 r1 q1 fun d2 S2 v2 μ2 H2 g2 r2 e2 rv2 q2 => ?_
        obtain ⟨i, j, rfl, rfl, s1, s2, hz, q⟩ := q2
        cases rv1; cases rv2
        refine ⟨i, j, rfl, rfl, ⟨s1.1, s1.2, s2.1, s2.2, by omega⟩, fun p hp => hQ _ _ ((new_lst r2 (rg_rv i j) q p hp).from (g1.trans g2))⟩
      | [], _, h => exact (Bool.false_ne_true h).elim
      | [_], _, h => exact (Bool.false_ne_true h).elim
      | _ :: _ :: _ :: _, _, h => exact (Bool.false_ne_true h).elim
      | [_, _], _ :: _, h => exact (Bool.false_ne_true h).elim
    | [], _, h => exact (Bool.false_ne_true h).elim
    | _ :: _ :: _, _, h => exact (Bool.false_ne_true h).elim
    | [_], _ :: _, h => exact (Bool.false_ne_true h).elim
  | .dcomp key val tg it own, X, sc, e, hx, h => by
    cases e <;> first | (exact (Bool.false_ne_true h).elim) | skip
    rename_i key' val' gs scope p
    match gs, h with
    | [⟨tg', it', ifs', as⟩], h =>
      by_cases ha : as = 0 ∧ ifs' = []
      · obtain ⟨rfl, rfl⟩ := ha
        change (_ && _) = true at h
        simp only [Bool.and_eq_true] at h
        obtain ⟨⟨⟨⟨⟨⟨⟨h1, h2⟩, h2'⟩, h3⟩, h4⟩, h5⟩, h6⟩, h9⟩ := h
        have ok := blkOk_by h1
        have hok : BlkOk X.N X.env.scope scope (own.map fun i => (N.getD i "", i)) := by rw [hx.nm, hx.scp]; exact ok
        have hown : (own.map fun i => ((N.getD i "", i) : Str × Nat)).map (·.2) = own := by rw [List.map_map]; exact List.map_id _
        have P := pe_dc (pos := p) (kx := key') (vx := val') (ifs := []) (tg := tg') (iter := it') (scope := scope) (g := gS X.K tg) (tt := tYes) (tk := tOf X.K (wpE G key)) (tv := tOf X.K (wpE G val)) hx.calm (by rw [hx.nm]; exact hx.nd) (sI it _ _ hx h6 (pairs_of h9)) hok (fun s H C cl fp => sT tg _ (hx.blk ok.kind s H C cl fp) h3 h4) (fun s H C cl fp => pts_nil)
          (fun s H C cl fp => sE key _ (hx.blk ok.kind s H C cl fp) h2) (fun s H C cl fp => sE val _ (hx.blk ok.kind s H C cl fp) h2') (sI_fold it _ h6)
        rw [hown] at P
        refine DE.mk P fun η μ ρ S σ H Q QD hE hR hT hQ => ?_
        exact dc_of hE hR h4 (fun i hi => by simpa using List.all_eq_true.mp h5 i hi) hT hQ
      · exfalso
        rcases ifs' with _ | ⟨_, _⟩ <;> rcases as with (_ | _) | _ <;> first | exact ha ⟨rfl, rfl⟩ | exact (Bool.false_ne_true h).elim
    | [], h => exact (Bool.false_ne_true h).elim
    | _ :: _ :: _, h => exact (Bool.false_ne_true h).elim
  | .ptup a, X, sc, e, hx, h => by
    cases e <;> first | (exact (Bool.false_ne_true h).elim) | skip
    rename_i f as ks p
    cases f <;> first | (exact (Bool.false_ne_true h).elim) | skip
    rename_i y2 py2
    match as, ks, h with
    | [a'], [], h =>
      change (_ && _) = true at h
      simp only [Bool.and_eq_true, beq_iff_eq] at h
      obtain ⟨⟨⟨rfl, k2⟩, k3⟩, k4⟩ := h
      refine DE.mk (pe_callTy (pos := p) (p := py2) call_ptup (gl_of hx k2) (hx.tab.bi _ (by simpa using k3)) (by decide +kernel) (pa_cons (sE a a' hx k4) pa_nil (star_of k4)) (by decide) (by decide) (star_of k4) rfl) fun η μ ρ S σ H Q QD hE hR hT hQ => ?_
      simp only [wpE] at hT
      refine use hE hR hT fun d S1 v μ1 H1 g1 r1 e1 rv1 q1 => ?_
      obtain ⟨ds, hl1, q⟩ := q1
      obtain ⟨a1, vs1, rfl, ha1, qa1⟩ := lst_of r1 rv1 hl1
      refine ⟨a1, vs1, rfl, .inl (.inl ha1), fun p0 o0 hd0 hp0 => ?_⟩
      exact hQ _ _ ⟨_, _, _, g1.trans (grow_new r1 hp0), rp_new r1 hp0, .ptup (upd_same) hd0 (RVs.ext ((grow_new r1 hp0).ext (η := η)) qa1), q⟩
    | [], _, h => exact (Bool.false_ne_true h).elim
    | _ :: _ :: _, _, h => exact (Bool.false_ne_true h).elim
    | [_], _ :: _, h => exact (Bool.false_ne_true h).elim
  | .lz m a b, X, sc, e, hx, h => by
    cases e <;> first | (exact (Bool.false_ne_true h).elim) | skip
    rename_i f as ks p
    cases f <;> first | (exact (Bool.false_ne_true h).elim) | skip
    match as, ks, h with
    | [.Call (.Name y p1) [a', b'] [] p2], [], h =>
      change (_ && _) = true at h
      simp only [Bool.and_eq_true, beq_iff_eq] at h
      obtain ⟨⟨⟨⟨⟨⟨⟨h1, h2⟩, h3⟩, h4⟩, h5⟩, h6⟩, h7⟩, h8⟩ := h
      subst h1 h4
      refine DE.mk (pe_listZip hx.calm (gl_of hx h2) (hx.tab.bi _ (by simpa using h3)) (gl_of hx h5) (hx.tab.bi _ (by simpa using h6)) (pa_cons (sE a a' hx h7) (pa_cons (sE b b' hx h8) pa_nil (star_of h8)) (star_of h7)) (star_of h7) (by rw [star_of h8]; rfl)) fun η μ ρ S σ H Q QD hE hR hT hQ => ?_
      simp only [wpE] at hT
      refine use hE hR hT fun d S1 v μ1 H1 g1 r1 e1 rv1 q1 => use e1 r1 q1 fun d2 S2 v2 μ2 H2 g2 r2 e2 rv2 q2 => ?_
      exact listZip_of r2 (rv1.ext g2.ext) rv2 q2 fun v H' P => hQ v H' (P.from (g1.trans g2))
    | [], _, h => exact (Bool.false_ne_true h).elim
    | _ :: _ :: _, _, h => exact (Bool.false_ne_true h).elim
    | [_], _ :: _, h => exact (Bool.false_ne_true h).elim
  | .dget2 a es x, X, sc, e, hx, h => by
    cases e <;> first | (exact (Bool.false_ne_true h).elim) | skip
    rename_i f args kws cp
    cases f <;> first | (exact (Bool.false_ne_true h).elim) | skip
    rename_i o m ap
    obtain ⟨i', x', rfl, rfl⟩ : ∃ i' x', args = [i', x'] ∧ kws = [] := by
      match args, kws, h with
      | [_, _], [], _ => exact ⟨_, _, rfl, rfl⟩
      | [], _, h => exact (Bool.false_ne_true h).elim
      | [_], _, h => exact (Bool.false_ne_true h).elim
      | _ :: _ :: _ :: _, _, h => exact (Bool.false_ne_true h).elim
      | [_, _], _ :: _, h => exact (Bool.false_ne_true h).elim
    cases i' <;> first | (exact (Bool.false_ne_true h).elim) | skip
    rename_i es' tk tp
    change (_ && _) = true at h
    simp only [Bool.and_eq_true, beq_iff_eq, decide_eq_true_eq] at h
    obtain ⟨⟨⟨⟨⟨⟨h1, h2⟩, h3⟩, h4⟩, h5⟩, h6⟩, h7⟩ := h
    subst h1
    have ht : okE T N sc (.tup es) (.Tuple es' tk tp) = true := by
      show (okEs T N sc es es' && decide (es.length ≤ 1000)) = true
      rw [h4, Bool.true_and, decide_eq_true_eq]; exact h5
    have hs1 := star_of (env := X.env) (es := [x']) ht
    have hs2 := star_of (env := X.env) (es := []) h6
    refine DE.mk (pe_dget2 (by have := hx.room.units; omega) (sE a _ hx h3) (pe_tup (sEs es _ hx h4)) (sE x _ hx h6) ⟨base_of h7, by rw [hs1, hs2]; rfl, by simpa using h2, by rw [hs1, hs2]; rfl⟩) fun η μ ρ S σ H Q QD hE hR hT hQ => ?_
    simp only [wpE] at hT
    refine use hE hR hT fun d S1 v μ1 H1 g1 r1 e1 rv1 q1 => ?_
    obtain ⟨n, rfl, ⟨kvs0, hd⟩, q1⟩ := q1
    obtain ⟨a1, vs0, rfl, ha, qk⟩ := dct_of r1 rv1 hd
    refine ⟨a1, rfl, .inr ⟨_, ha⟩, ?_⟩
    refine useA e1 r1 q1 fun ys S2 vs μ2 H2 g2 r2 e2 rv2 hl q2 => ⟨?_, fun p hp => ?_⟩
    · have : (1000 : Nat) ≤ sizeLine := by decide
      omega
    have g3 := grow_new (o := .tup vs) r2 hp
    have r3 := rp_new (o := .tup vs) r2 hp
    refine use (e2.ext g3.ext) r3 q2 fun z S4 w μ4 H4 g4 r4 e4 rv4 q4 => ?_
    obtain ⟨kvs, ks, hd4, hk, q⟩ := q4
    have eb : vs = ks.map kV := keysOf_rv rv2 hk
    have rv1' : RV X.K H4 η μ4 (.ref n) (.ref a1) := ((rv1.ext g2.ext).ext g3.ext).ext g4.ext
    obtain ⟨a2, vs4, e5, ha4, qk4⟩ := dct_of r4 rv1' hd4
    cases e5
    refine ⟨valV vs4 ks, .inr ⟨vs4, ks, p, ha4, rfl, by rw [← eb]; exact g4.tup _ _ upd_same, rfl⟩, ?_⟩
    have rr : RV X.K H4 η μ4 ((valD kvs ks).getD z) ((valV vs4 ks).getD w) := by
      have hv := qk4.val ks
      cases e6 : valD kvs ks with
      | none => rw [hv.2 e6]; exact rv4
      | some d6 => obtain ⟨v6, e7, r7⟩ := hv.1 d6 e6; rw [e7]; exact r7
    exact hQ _ _ ((((stay r4 rr q).from g4).from g3).from g2 |>.from g1)
  | .sortA m a, X, sc, e, hx, h => by
    cases e <;> first | (exact (Bool.false_ne_true h).elim) | skip
    rename_i f as kws cp
    cases f <;> first | (exact (Bool.false_ne_true h).elim) | skip
    rename_i x px
    obtain ⟨a', kn, lm, pk, rfl, rfl⟩ : ∃ a' kn lm pk, as = [a'] ∧ kws = [⟨some kn, lm, pk⟩] := by
      match as, kws, h with
      | [_], [⟨some _, _, _⟩], _ => exact ⟨_, _, _, _, rfl, rfl⟩
      | [], _, h => exact (Bool.false_ne_true h).elim
      | _ :: _ :: _, _, h => exact (Bool.false_ne_true h).elim
      | [_], [], h => exact (Bool.false_ne_true h).elim
      | [_], [⟨none, _, _⟩], h => exact (Bool.false_ne_true h).elim
      | [_], ⟨none, _, _⟩ :: _ :: _, h => exact (Bool.false_ne_true h).elim
      | [_], ⟨some _, z, _⟩ :: _ :: _, h => cases z <;> exact (Bool.false_ne_true h).elim
    cases lm <;> first | (exact (Bool.false_ne_true h).elim) | skip
    rename_i args body scope pl
    change (_ && _) = true at h
    simp only [Bool.and_eq_true, beq_iff_eq] at h
    obtain ⟨⟨⟨⟨⟨⟨⟨h1, h2⟩, h3⟩, h4⟩, h5⟩, h6⟩, h7⟩, h8⟩ := h
    subst h2 h3
    obtain ⟨pa, p1, p2, p3, rfl, rfl, rfl⟩ := isLam_of h4
    obtain ⟨c, P, TB, hc, hq, hP⟩ := hx.lam h1
    refine DE.mk (pe_sortA TB hc hq (gl_of hx h5) (hx.tab.bi _ (by simpa using h6)) (hx.tab.bi _ (by simpa using h7)) hx.room (sE a _ hx h8) (star_of h8)) fun η μ ρ S σ H Q QD hE hR hT hQ => ?_
    simp only [wpE] at hT
    refine use hE hR hT fun d S1 v μ1 H1 g1 r1 e1 rv1 q1 => ?_
    obtain ⟨ns, hl1, q1⟩ := q1
    obtain ⟨a1, vs1, rfl, ha1, qa1⟩ := lst_of r1 rv1 hl1
    have ev : vs1 = ns.map V.int := dints_of qa1
    subst ev
    obtain ⟨tm, tn, ps, t1, t2, t3⟩ := r1.tb P hP
    refine ⟨a1, ns, ps, rfl, .inl (.inl ha1), ⟨t1, t2, fun pos cv hcv => let ⟨c, e, h, _⟩ := t3 pos cv hcv; ⟨c, e, h⟩⟩, fun H2 c' p hL hp => ?_⟩
    obtain ⟨g2, r2⟩ := lam_rp r1 hP t1 t3 hL
    exact hQ _ _ (((new_lst r2 (ints_rv _) q1 p hp).from g2).from g1)
  | .lc m elt tg it ifs own, X, sc, e, hx, h => by
    cases e <;> first | (exact (Bool.false_ne_true h).elim) | skip
    rename_i elt' gs scope p
    match gs, h with
    | [⟨tg', it', ifs', as⟩], h =>
      by_cases ha : as = 0
      · subst ha
        change (_ && _) = true at h
        simp only [Bool.and_eq_true] at h
        obtain ⟨⟨⟨⟨⟨⟨⟨⟨h1, h2⟩, h3⟩, h4⟩, h5⟩, h6⟩, h7⟩, h8⟩, h9⟩ := h
        have ok := blkOk_by h1
        have hok : BlkOk X.N X.env.scope scope (own.map fun i => (N.getD i "", i)) := by rw [hx.nm, hx.scp]; exact ok
        have hown : (own.map fun i => ((N.getD i "", i) : Str × Nat)).map (·.2) = own := by rw [List.map_map]; exact List.map_id _
        have P := pe_lc (pos := p) (elt := elt') (ifs := ifs') (tg := tg') (iter := it') (scope := scope) (g := gS X.K tg) (tt := bOf X.K (wpBs G ifs)) (te := tOf X.K (wpE G elt)) hx.calm (by rw [hx.nm]; exact hx.nd) (sI it _ _ hx h6 (pairs_of h9)) hok (fun s H C cl fp => sT tg _ (hx.blk ok.kind s H C cl fp) h3 h4) (fun s H C cl fp => sBs ifs _ (hx.blk ok.kind s H C cl fp) h7 (by simpa using h8))
          (fun s H C cl fp => sE elt _ (hx.blk ok.kind s H C cl fp) h2) (sI_fold it _ h6)
        rw [hown] at P
        refine DE.mk P fun η μ ρ S σ H Q QD hE hR hT hQ => ?_
        exact lc_of hE hR h4 (fun i hi => by simpa using List.all_eq_true.mp h5 i hi) hT hQ
      · rcases as with (_ | _) | _ <;> first | exact (ha rfl).elim | exact (Bool.false_ne_true h).elim
    | [], h => exact (Bool.false_ne_true h).elim
    | _ :: _ :: _, h => exact (Bool.false_ne_true h).elim
  | .dcS key val tg it ifs own, X, sc, e, hx, h => by
    cases e <;> first | (exact (Bool.false_ne_true h).elim) | skip
    rename_i key' val' gs scope ps
    match gs, h with
    | [⟨tg', it', ifs', as⟩], h =>
      by_cases ha : as = 0
      · subst ha
        change (_ && _) = true at h
        simp only [Bool.and_eq_true] at h
        obtain ⟨⟨⟨⟨⟨⟨⟨⟨⟨h1, h2⟩, h2'⟩, h3⟩, h4⟩, h5⟩, h6⟩, h7⟩, h8⟩, h9⟩ := h
        have ok := blkOk_by h1
        have hok : BlkOk X.N X.env.scope scope (own.map fun i => (N.getD i "", i)) := by rw [hx.nm, hx.scp]; exact ok
        have hown : (own.map fun i => ((N.getD i "", i) : Str × Nat)).map (·.2) = own := by rw [List.map_map]; exact List.map_id _
        have P := pe_dcS (pos := ps) (ekx := key') (evx := val') (iff := ifs') (tge := tg') (itr := it') (sco := scope) (g := gS X.K tg) (tt := bOf X.K (wpBs G ifs)) (tk := tOf X.K (wpE G key)) (tv := tOf X.K (wpE G val)) hx.calm (by have := hx.room.units; omega) (by rw [hx.nm]; exact hx.nd) (sI it _ _ hx h6 (pairs_of h9)) hok (fun s H C cl fp => sT tg _ (hx.blk ok.kind s H C cl fp) h3 h4) (fun s H C cl fp => sBs ifs _ (hx.blk ok.kind s H C cl fp) h7 (by simpa using h8))
          (fun s H C cl fp => sE key _ (hx.blk ok.kind s H C cl fp) h2) (fun s H C cl fp => sE val _ (hx.blk ok.kind s H C cl fp) h2') (sI_fold it _ h6)
        rw [hown] at P
        refine DE.mk P fun η μ ρ S σ H Q QD hE hR hT hQ => ?_
        exact dcs_of hE hR h4 (fun i hi => by simpa using List.all_eq_true.mp h5 i hi) hT hQ
      · rcases as with (_ | _) | _ <;> first | exact (ha rfl).elim | exact (Bool.false_ne_true h).elim
    | [], h => exact (Bool.false_ne_true h).elim
    | _ :: _ :: _, h => exact (Bool.false_ne_true h).elim
  | .isiX tp cns a, X, sc, e, hx, h => by
    cases e <;> first | (exact (Bool.false_ne_true h).elim) | skip
    rename_i f as ks p
    cases f <;> first | (exact (Bool.false_ne_true h).elim) | skip
    match as, ks, h with
    | [a', b'], [], h =>
      cases b' <;> first | (exact (Bool.false_ne_true h).elim) | skip
      · rename_i y py
        change (_ && _) = true at h
        simp only [Bool.and_eq_true, beq_iff_eq] at h
        obtain ⟨⟨⟨⟨⟨h0, rfl⟩, h2⟩, h3⟩, h4⟩, h5⟩ := h
        match cns, h5 with
        | [c], h5 =>
          have hne : T.x.isn ≠ [] := fun z => by
            unfold okI1 at h5
            rw [z] at h5
            simp at h5
          have A := isn_xa hx hne
          obtain ⟨v0, u0, pe, kv, ku, hc0⟩ := isn_1 hx h5 A
          have hs : starEach [a', .Name y py] X.env = (false, eval a' X.env) :: starEach [.Name y py] X.env := star_of h4
          refine DE.mk (pe_callB call_isK (gl_of hx h2) (hx.tab.bi _ (by simpa using h3)) (by decide +kernel) (pa_cons (sE a a' hx h4) (pa_cons (pe py) pa_nil rfl) hs) (by decide) (by decide) hs rfl) fun η μ ρ S σ H Q QD hE hR hT hQ => ?_
          simp only [wpE] at hT
          refine use hE hR hT fun d S1 v μ1 H1 g1 r1 e1 rv1 q1 => ?_
          obtain ⟨n, c', ds, rfl, hc, q⟩ := q1
          obtain ⟨a1, C1, dd, vs, rfl, hn, ha, rvs, m, x⟩ := exn_of r1 rv1 hc
          obtain ⟨u', ku', k1⟩ := (A.at m hn).2.1 c hc0
          rw [ku] at ku'
          cases ku'
          refine ⟨a1, C1, dd, v0, u0, isX c' c, rfl, ha, xfk_d x, (A.at m hn).1, kv, k1, hQ _ _ ((stay r1 (.bl _) ?_).from g1)⟩
          simpa using q
        | [], h5 => cases h5
        | _ :: _ :: _, h5 => cases h5
      · rename_i es tk tpos
        change (_ && _) = true at h
        simp only [Bool.and_eq_true, beq_iff_eq] at h
        obtain ⟨⟨⟨⟨⟨⟨h0, rfl⟩, h2⟩, h3⟩, h4⟩, h5⟩, h6⟩ := h
        have hln : cns.length ≤ sizeLine := Nat.le_trans (of_decide_eq_true h6) (by decide)
        obtain ⟨A, tt, vs0, us0, htt, htq, pr, hl0, hk⟩ := isn_pa hx h5
        have hs : starEach [a', .Tuple es tk tpos] X.env = (false, eval a' X.env) :: starEach [.Tuple es tk tpos] X.env := star_of h4
        refine DE.mk (pe_callB call_isKT (gl_of hx h2) (hx.tab.bi _ (by simpa using h3)) (by decide +kernel) (pa_cons (sE a a' hx h4) (pa_cons (pe_tup (x1 := tk) (pos := tpos) htt) pa_nil rfl) hs) (by decide) (by decide) hs rfl) fun η μ ρ S σ H Q QD hE hR hT hQ => ?_
        simp only [wpE] at hT
        refine use hE hR hT fun d S1 v μ1 H1 g1 r1 e1 rv1 q1 => htq _ _ _ ⟨?_, fun p1 hp1 => ?_⟩
        · rw [hl0]; exact hln
        have g2 := grow_new (o := .tup vs0) r1 hp1
        have r2 := rp_new (o := .tup vs0) r1 hp1
        obtain ⟨n, c', ds, rfl, hc, q⟩ := q1
        obtain ⟨a1, C1, dd, vs, rfl, hn, ha, rvs, m, x⟩ := exn_of r2 (rv1.ext g2.ext) hc
        exact ⟨a1, C1, dd, p1, _, _, _, rfl, ha, xfk_d x, (A.at m hn).1, upd_same, pr, hk _ _ m hn, hQ _ _ (((stay r2 (.bl _) q).from g2).from g1)⟩
    | [], _, h => exact (Bool.false_ne_true h).elim
    | [_], _, h => exact (Bool.false_ne_true h).elim
    | _ :: b' :: _ :: _, _, h => cases b' <;> exact (Bool.false_ne_true h).elim
    | [_, b'], _ :: _, h => cases b' <;> exact (Bool.false_ne_true h).elim
  | .mk cn j es, X, sc, e, hx, h => by
    cases e <;> first | (exact (Bool.false_ne_true h).elim) | skip
    rename_i f as ks p
    cases f <;> first | (exact (Bool.false_ne_true h).elim) | skip
    cases ks with
    | cons _ _ => exact (Bool.false_ne_true h).elim
    | nil =>
      change (_ && _) = true at h
      simp only [Bool.and_eq_true, beq_iff_eq] at h
      obtain ⟨⟨⟨⟨rfl, h1⟩, h2⟩, h3⟩, h4⟩ := h
      split at h4
      · rename_i i hi
        simp only [Bool.and_eq_true, beq_iff_eq, Bool.not_eq_true'] at h4
        obtain ⟨⟨⟨⟨h6, hko⟩, hcl⟩, hcs⟩, hup⟩ := h4
        obtain ⟨f, fd, ⟨F, hle⟩, ⟨_, hme⟩, hk, hb0, _⟩ := hx.tab.fn j i hi
        obtain ⟨C, hn, M⟩ := hme _ hcl
        obtain ⟨hm, cc, hmk, hkc⟩ := mk_of' hx.tab hcs hn
        rw [h6] at M
        have MK : Mk X.K C f := ⟨hmk, M.at_, M.fn, hkc⟩
        have hr : Room (k - i.up + 1) X.A := by rw [hup, Nat.sub_add_cancel (by omega)]; exact hx.room
        have hb := hb0 hko
        cases as with
        | nil =>
          cases es with
          | cons _ _ => simp [okEs] at h3
          | nil =>
            refine DE.mk (pe_makeG0 MK F hr hx.gd (gl_of hx h1) hm hb pk_nil rfl rfl (dbg_of h2).1 rfl) fun η μ ρ S σ H Q QD hE hR hT hQ => ?_
            simp only [wpE, wpEs] at hT
            intro x dx hx0 hd0 ne
            obtain ⟨rn, gn⟩ := rp_make hR hn hx0 hd0 ne
            exact ⟨η, _, _, _, _, rn, .cons (rv_cell hR) .nil, hT, fun v H' p => made_of hR gn p hQ⟩
        | cons e' es' =>
          obtain ⟨⟨c0, h31⟩, _⟩ := okEs_cons h3
          refine DE.mk (pe_makeG MK F hr hx.gd (gl_of hx h1) hm hb (sEs es _ hx h3) pk_nil rfl rfl (dbg_of h2).1 (star_of h31) (by rw [stars_of h3]; rfl)) fun η μ ρ S σ H Q QD hE hR hT hQ => ?_
          simp only [wpE] at hT
          refine useA hE hR hT fun ds S1 vs μ1 H1 g1 r1 e1 rv1 hl q1 => ?_
          intro x dx hx0 hd0 ne
          obtain ⟨rn, gn⟩ := rp_make r1 hn hx0 hd0 ne
          exact ⟨η, _, _, _, _, rn, .cons (rv_cell r1) (rv1.ext gn.ext), q1, fun v H' p => made_of r1 gn p fun v H' p => hQ _ _ (p.from g1)⟩
      · cases h4
theorem sEs : ∀ (cs : List CE) {X : Cx} {sc : SS} (es : List Expr), Here T G k N X sc → okEs T N sc cs es = true → PA X es (aOf X.K cs.length (wpEs G cs))
  | [], X, sc, es, hx, h => by
    cases es with
    | cons _ _ => simp [okEs] at h
    | nil =>
      refine PA.imp pa_nil fun σ H Q ⟨η, μ, ρ, S, QD, hE, hR, hT, hQ⟩ => ?_
      simp only [wpEs] at hT
      exact hQ [] H ⟨[], S, μ, .refl, hR, .nil, hT⟩ rfl
  | c :: cs, X, sc, es, hx, h => by
    cases es with
    | nil => simp [okEs] at h
    | cons e es =>
      simp only [okEs, Bool.and_eq_true] at h
      refine PA.imp (pa_cons (sE c e hx h.1) (sEs cs es hx h.2) (star_of h.1)) fun σ H Q ⟨η, μ, ρ, S, QD, hE, hR, hT, hQ⟩ => ?_
      simp only [wpEs] at hT
      refine use hE hR hT fun d S1 v μ1 H1 g1 r1 e1 rv1 q1 => useA e1 r1 q1 fun ds S2 vs μ2 H2 g2 r2 e2 rv2 hl q2 => ?_
      exact hQ _ _ ⟨d :: ds, S2, μ2, g1.trans g2, r2, .cons (rv1.ext g2.ext) rv2, q2⟩ (by simp [hl])
theorem sPs : ∀ (cs : List CE) (ks : List Str) {X : Cx} {sc : SS} (keys : List (Option Expr)) (es : List Expr) (pos : Pos), Here T G k N X sc → okDs T N sc ks cs keys es = true →
    ∃ trs, PPs X pos keys es trs ∧ keys.all (·.isSome) = true ∧ ks.length = keys.length ∧ ks.length = es.length ∧
      ∀ η μ ρ S σ H QD (Q : List (V × V) → Hp → Prop), RE X.K H η μ ρ σ → Rp X.K η μ S H → wpEs G cs ρ S QD → (∀ ds vs S' μ' H', Grow μ H μ' H' → Rp X.K η μ' S' H' → RVs X.K H' η μ' ds vs → vs.length = ks.length → QD ds S' → Q ((ks.map V.str).zip vs) H') → tPairs trs σ H Q
  | [], ks, X, sc, keys, es, pos, hx, h => by
    match ks, keys, es, h with
    | [], [], [], _ =>
      refine ⟨[], pps_nil, rfl, rfl, rfl, fun η μ ρ S σ H QD Q hE hR hT hQ => ?_⟩
      simp only [wpEs] at hT
      exact hQ [] [] S μ H .refl hR .nil rfl hT
    | _ :: _, _, _, h => simp [okDs] at h
    | [], _ :: _, _, h => simp [okDs] at h
    | [], [], _ :: _, h => simp [okDs] at h
  | c :: cs, ks, X, sc, keys, es, pos, hx, h => by
    match ks, keys, es, h with
    | [], _, _, h => simp [okDs] at h
    | _ :: _, [], _, h => simp [okDs] at h
    | _ :: _, none :: _, _, h => simp [okDs] at h
    | _ :: _, some _ :: _, [], h => simp [okDs] at h
    | x :: ks, some kx :: keys, e :: es, h =>
      cases kx <;> first | (simp [okDs] at h; done) | skip
      rename_i cst kk kp
      cases cst <;> first | (simp [okDs] at h; done) | skip
      simp only [okDs, Bool.and_eq_true, beq_iff_eq] at h
      obtain ⟨⟨h1, h2⟩, h3⟩ := h
      subst h1
      obtain ⟨trs, P, hall, hl1, hl2, use'⟩ := sPs cs ks keys es pos hx h3
      refine ⟨_, pps_cons pe_str (sE c e hx h2) P, by simp [hall], by simp [hl1], by simp [hl2], fun η μ ρ S σ H QD Q hE hR hT hQ => ?_⟩
      simp only [wpEs] at hT
      refine use hE hR hT fun d S1 v μ1 H1 g1 r1 e1 rv1 q1 => use' η μ1 ρ S1 σ H1 _ _ e1 r1 q1 fun ds vs S' μ' H' g' r' rv' hl' q' => ?_
      exact hQ (d :: ds) (v :: vs) S' μ' H' (g1.trans g') r' (.cons (rv1.ext g'.ext) rv') (by simp [hl']) q'
theorem sKs : ∀ (cs : List CE) {X : Cx} {sc : SS} (ks : List Keyword), Here T G k N X sc → okKs T N sc cs ks = true → PK X ks (aOf X.K cs.length (wpEs G cs))
  | [], X, sc, es, hx, h => by
    cases es with
    | cons _ _ => simp [okKs] at h
    | nil =>
      refine PK.imp pk_nil fun σ H Q ⟨η, μ, ρ, S, QD, hE, hR, hT, hQ⟩ => ?_
      simp only [wpEs] at hT
      exact hQ [] H ⟨[], S, μ, .refl, hR, .nil, hT⟩ rfl
  | c :: cs, X, sc, es, hx, h => by
    cases es with
    | nil => simp [okKs] at h
    | cons e es =>
      obtain ⟨n, e, p⟩ := e
      simp only [okKs, Bool.and_eq_true] at h
      refine PK.imp (pk_cons (sE c e hx h.1.2) (sKs cs es hx h.2)) fun σ H Q ⟨η, μ, ρ, S, QD, hE, hR, hT, hQ⟩ => ?_
      simp only [wpEs] at hT
      refine use hE hR hT fun d S1 v μ1 H1 g1 r1 e1 rv1 q1 => useA e1 r1 q1 fun ds S2 vs μ2 H2 g2 r2 e2 rv2 hl q2 => ?_
      exact hQ _ _ ⟨d :: ds, S2, μ2, g1.trans g2, r2, .cons (rv1.ext g2.ext) rv2, q2⟩ (by simp [hl])
theorem sO : ∀ (c : CO) {X : Cx} {sc : SS} (e : Option Expr), Here T G k N X sc → okO T N sc c e = true → PO X e (bOf X.K (wpO G c))
  | .no, X, sc, e, hx, h => by
    cases e with
    | some _ => exact (Bool.false_ne_true h).elim
    | none =>
      refine PO.imp po_none fun σ H Q ⟨η, μ, ρ, S, QD, hE, hR, hT, hQ⟩ => ?_
      simp only [wpO] at hT
      exact hQ none H ⟨S, μ, .refl, hR, hT⟩
  | .yes c, X, sc, e, hx, h => by
    cases e with
    | none => exact (Bool.false_ne_true h).elim
    | some e =>
      simp only [okO] at h
      refine PO.imp (po_some (sE c e hx h)) fun σ H Q ⟨η, μ, ρ, S, QD, hE, hR, hT, hQ⟩ => ?_
      simp only [wpO] at hT
      refine use hE hR hT fun d S1 v μ1 H1 g1 r1 e1 rv1 q1 => ?_
      obtain ⟨i, rfl, q⟩ := q1
      cases rv1
      exact ⟨i, rfl, hQ _ _ ⟨S1, μ1, g1, r1, q⟩⟩
theorem sB : ∀ (c : CB) {X : Cx} {sc : SS} (e : Expr), Here T G k N X sc → okB T N sc c e = true → PT X e (bOf X.K (wpB G c))
  | .cand a b, X, sc, e, hx, h => by
    cases e <;> first | (exact (Bool.false_ne_true h).elim) | skip
    rename_i op vs p
    match op, vs, h with
    | .And, a' :: b' :: r, h =>
      change (_ && _) = true at h
      simp only [Bool.and_eq_true] at h
      have hb : PW X (.BoolOp .And (b' :: r) p) (bOf X.K (wpB G b)) := by
        cases r with
        | nil => exact pw_and1 (sB b _ hx h.2)
        | cons c' r' => exact bool_ext (sB b _ hx h.2)
      refine PT.imp (pw_and (sB a _ hx h.1) hb).pt fun σ H Q ⟨η, μ, ρ, S, QD, hE, hR, hT, hQ⟩ => ?_
      simp only [wpB] at hT
      refine useB hE hR hT fun c S1 μ1 H1 g1 r1 e1 q1 => ?_
      cases c with
      | true =>
        simp only [if_true] at q1 ⊢
        exact ⟨_, _, _, _, _, e1, r1, q1, fun v H' ⟨S2, μ2, g2, r2, q2⟩ => hQ _ _ ⟨S2, μ2, g1.trans g2, r2, q2⟩⟩
      | false =>
        simp only [Bool.false_eq_true, if_false] at q1 ⊢
        exact hQ _ _ ⟨S1, μ1, g1, r1, q1⟩
    | .And, [], h => exact (Bool.false_ne_true h).elim
    | .And, [_], h => exact (Bool.false_ne_true h).elim
    | .Or, _, h => exact (Bool.false_ne_true h).elim
  | .cor a b, X, sc, e, hx, h => by
    cases e <;> first | (exact (Bool.false_ne_true h).elim) | skip
    rename_i op vs p
    match op, vs, h with
    | .Or, a' :: b' :: r, h =>
      change (_ && _) = true at h
      simp only [Bool.and_eq_true] at h
      have hb : PW X (.BoolOp .Or (b' :: r) p) (bOf X.K (wpB G b)) := by
        cases r with
        | nil => exact pw_or1 (sB b _ hx h.2)
        | cons c' r' => exact bool_ext (sB b _ hx h.2)
      refine PT.imp (pw_or (sB a _ hx h.1) hb).pt fun σ H Q ⟨η, μ, ρ, S, QD, hE, hR, hT, hQ⟩ => ?_
      simp only [wpB] at hT
      refine useB hE hR hT fun c S1 μ1 H1 g1 r1 e1 q1 => ?_
      cases c with
      | false =>
        simp only [Bool.false_eq_true, if_false] at q1 ⊢
        exact ⟨_, _, _, _, _, e1, r1, q1, fun v H' ⟨S2, μ2, g2, r2, q2⟩ => hQ _ _ ⟨S2, μ2, g1.trans g2, r2, q2⟩⟩
      | true =>
        simp only [if_true] at q1 ⊢
        exact hQ _ _ ⟨S1, μ1, g1, r1, q1⟩
    | .Or, [], h => exact (Bool.false_ne_true h).elim
    | .Or, [_], h => exact (Bool.false_ne_true h).elim
    | .And, _, h => exact (Bool.false_ne_true h).elim
  | .cnot a, X, sc, e, hx, h => by
    cases e <;> first | (exact (Bool.false_ne_true h).elim) | skip
    rename_i op x p
    cases op <;> first | (exact (Bool.false_ne_true h).elim) | skip
    refine PT.imp (pt_not (sB a x hx h)) fun σ H Q ⟨η, μ, ρ, S, QD, hE, hR, hT, hQ⟩ => ?_
    simp only [wpB] at hT
    exact useB hE hR hT fun c S1 μ1 H1 g1 r1 e1 q1 => hQ _ _ ⟨S1, μ1, g1, r1, q1⟩
  | .ccmp op a b, X, sc, e, hx, h => by
    cases e <;> first | (exact (Bool.false_ne_true h).elim) | skip
    rename_i l ops cs p
    match ops, cs, h with
    | [op'], [b'], h =>
      change (_ && _) = true at h
      simp only [Bool.and_eq_true, beq_iff_eq] at h
      obtain ⟨⟨h1, h2⟩, h3⟩ := h
      subst h1
      obtain ⟨r, ho, hr⟩ := cmpR (X := X) hx.room.units op
      refine PT.imp (pt_cmpR ho (sE a _ hx h2) (sE b _ hx h3) (mark_of h3)) fun σ H Q ⟨η, μ, ρ, S, QD, hE, hR, hT, hQ⟩ => ?_
      simp only [wpB] at hT
      refine use hE hR hT fun d S1 v μ1 H1 g1 r1 e1 rv1 q1 => use e1 r1 q1 fun d2 S2 v2 μ2 H2 g2 r2 e2 rv2 q2 => ?_
      exact hr r2 (rv1.ext g2.ext) rv2 q2 fun b hb => ⟨b, rfl, hQ _ _ ⟨S2, μ2, g1.trans g2, r2, hb⟩⟩
    | [], _, h => exact (Bool.false_ne_true h).elim
    | [_], [], h => exact (Bool.false_ne_true h).elim
    | [_], _ :: _ :: _, h => exact (Bool.false_ne_true h).elim
    | _ :: _ :: _, _, h => exact (Bool.false_ne_true h).elim
  | .cval c, X, sc, e, hx, h => by
    cases e <;> first | (exact (Bool.false_ne_true h).elim) | skip
    all_goals
      change okE T N sc c _ = true at h
      refine PT.imp (pt_truth (sE c _ hx h) (by intro _; rfl)) fun σ H Q ⟨η, μ, ρ, S, QD, hE, hR, hT, hQ⟩ => ?_
      simp only [wpB] at hT
      refine use hE hR hT fun d S1 v μ1 H1 g1 r1 e1 rv1 q1 => ?_
      obtain ⟨b, h1, h2⟩ := tru_of r1 rv1 q1
      exact ⟨b, h1, hQ _ _ ⟨S1, μ1, g1, r1, h2⟩⟩
theorem sBs : ∀ (cs : List CB) {X : Cx} {sc : SS} (es : List Expr), Here T G k N X sc → okBs T N sc cs es = true → cs.length ≤ 1 → PTs X es (bOf X.K (wpBs G cs))
  | [], X, sc, es, hx, h, _ => by
    cases es with
    | cons _ _ => simp [okBs] at h
    | nil =>
      refine PTs.imp pts_nil fun σ H Q ⟨η, μ, ρ, S, QD, hE, hR, hT, hQ⟩ => ?_
      simp only [wpBs] at hT
      exact hQ true H ⟨S, μ, .refl, hR, hT⟩
  | [c], X, sc, es, hx, h, _ => by
    cases es with
    | nil => simp [okBs] at h
    | cons e es =>
      cases es with
      | cons _ _ => simp [okBs] at h
      | nil =>
        simp only [okBs, Bool.and_true] at h
        refine PTs.imp (pts_one (sB c e hx h)) fun σ H Q ⟨η, μ, ρ, S, QD, hE, hR, hT, hQ⟩ => ?_
        simp only [wpBs] at hT
        refine useB hE hR hT fun b S1 μ1 H1 g1 r1 e1 q1 => hQ _ _ ⟨S1, μ1, g1, r1, ?_⟩
        cases b <;> exact q1
  | _ :: _ :: _, X, sc, es, hx, h, hl => by simp at hl
theorem sT : ∀ (t : CT) {X : Cx} {sc : SS} (e : Expr), Here T G k N X sc → okT T N sc t e = true → CT.simple t = true → PG X e (gS X.K t)
  | .name i, X, sc, e, hx, h, _ => by
    cases e <;> first | (exact (Bool.false_ne_true h).elim) | skip
    change (_ && _) = true at h
    simp only [Bool.and_eq_true] at h
    obtain ⟨h1, h2⟩ := loc_of h.1
    refine pg_name (i := i) (by rw [hx.nm]; exact hx.nd) (by rw [hx.nm]; exact lits h.2) (by rw [hx.scp]; exact h1) ?_
    rcases h2 with h2 | h2
    · exact .inl (hx.fn _ h2)
    · exact .inr (by rw [hx.scp]; exact h2)
  | .tup ts, X, sc, e, hx, h, hs => by
    cases e <;> first | (exact (Bool.false_ne_true h).elim) | skip
    rename_i es' _ _
    obtain ⟨a, b, c⟩ := sTs ts es' hx h hs
    exact pg_or (pg_tup hx.calm a b c) (pg_lst hx.calm a b c)
  | .sub _ _, X, sc, e, hx, h, hs => by simp [CT.simple] at hs
  | .dsub _ _, X, sc, e, hx, h, hs => by simp [CT.simple] at hs
  | .ksub _ _, X, sc, e, hx, h, hs => by simp [CT.simple] at hs
  | .sput _ _, X, sc, e, hx, h, hs => by simp [CT.simple] at hs
  | .kput _ _, X, sc, e, hx, h, hs => by simp [CT.simple] at hs
theorem sTs : ∀ (ts : List CT) {X : Cx} {sc : SS} (es : List Expr), Here T G k N X sc → okTs T N sc ts es = true → CT.simple.simples ts = true → PGs X es (gSs X.K ts) ∧ (assignEach es X.env).length = ts.length ∧ (assignEach es X.env).findIdx? (·.1) = none
  | [], X, sc, es, hx, h, _ => by
    cases es with
    | cons _ _ => simp [okTs] at h
    | nil => exact ⟨pgs_nil, rfl, rfl⟩
  | t :: ts, X, sc, es, hx, h, hs => by
    cases es with
    | nil => simp [okTs] at h
    | cons e es =>
      simp only [okTs, Bool.and_eq_true] at h
      simp only [CT.simple.simples, Bool.and_eq_true] at hs
      obtain ⟨a, b, c⟩ := sTs ts es hx h.2 hs.2
      have he : assignEach (e :: es) X.env = (false, assign e X.env) :: assignEach es X.env := by
        cases e <;> first | rfl | (exfalso; cases t <;> exact (Bool.false_ne_true h.1).elim)
      refine ⟨pgs_cons (sT t e hx h.1 hs.1) a (by rw [he]; rfl), by rw [he]; simp [b], ?_⟩
      rw [he, List.findIdx?_cons]
      simp [c]
theorem sI : ∀ (c : CI) {X : Cx} {sc : SS} (tg e : Expr), Here T G k N X sc → okI T N sc c e = true → (c.pairs = true → isTupE tg = true) → PI X tg e (iOf X.K (wpI G c))
  | .seq c, X, sc, tg, e, hx, h, _ => by
    refine PI.imp (pi_seq (sE c e hx h)) fun σ H R ⟨η, μ, ρ, S, RD, hE, hR, hT, hJ⟩ => ?_
    simp only [wpI] at hT
    refine use hE hR hT fun d S1 v μ1 H1 g1 r1 e1 rv1 q1 => ?_
    exact seq_it r1 rv1 q1 fun J items I q jok => hJ J H1 items I S1 μ1 g1 r1 q jok
  | .keys c, X, sc, tg, e, hx, h, _ => by
    refine PI.imp (pi_keys (sE c e hx h)) fun σ H R ⟨η, μ, ρ, S, RD, hE, hR, hT, hJ⟩ => ?_
    simp only [wpI] at hT
    refine use hE hR hT fun d S1 v μ1 H1 g1 r1 e1 rv1 q1 => ?_
    obtain ⟨n, kvs, rfl, hc, q⟩ := q1
    cases rv1 with
    | @ref n a hn =>
      obtain ⟨a', ha', ob, vs, hv, qk⟩ := r1.cell n _ hc
      rw [hn] at ha'; cases ha'
      exact ⟨a, ob, rfl, .inr ⟨vs, hv, hJ _ H1 _ _ S1 μ1 g1 r1 q (jok_keys hv qk)⟩⟩
  | .range1 a, X, sc, tg, e, hx, h, _ => by
    cases e <;> first | (exact (Bool.false_ne_true h).elim) | skip
    rename_i f as ks p
    cases f <;> first | (exact (Bool.false_ne_true h).elim) | skip
    match as, ks, h with
    | [a'], [], h =>
      change (_ && _) = true at h
      simp only [Bool.and_eq_true, beq_iff_eq] at h
      obtain ⟨⟨⟨h1, h2⟩, h3⟩, h4⟩ := h
      subst h1
      refine PI.imp (pi_range1 (gl_of hx h2) (hx.tab.bi _ (by simpa using h3)) (pa1 (sE a a' hx h4) (star_of h4)) (by rw [star_of h4]; rfl)) fun σ H R ⟨η, μ, ρ, S, RD, hE, hR, hT, hJ⟩ => ?_
      simp only [wpI] at hT
      refine useA (QD := fun ds S1 => ∃ j, ds.headD .non = .int j ∧ Sm j ∧ RD (rangeD 0 j) (fun _ => True) S1) hE hR hT fun ds S1 vs μ1 H1 g1 r1 e1 rv1 hl q1 => ?_
      obtain ⟨d, v, rfl, rfl, rv⟩ := one_of rv1 hl
      obtain ⟨j, e0, s, q⟩ := q1
      rw [List.headD_cons] at e0
      subst e0
      cases rv
      exact ⟨j, rfl, s.1, s.2, hJ _ H1 _ _ S1 μ1 g1 r1 q (jok_range (by simp))⟩
    | [], _, h => exact (Bool.false_ne_true h).elim
    | _ :: _ :: _, _, h => exact (Bool.false_ne_true h).elim
    | [_], _ :: _, h => exact (Bool.false_ne_true h).elim
  | .range2 a b, X, sc, tg, e, hx, h, _ => by
    cases e <;> first | (exact (Bool.false_ne_true h).elim) | skip
    rename_i f as ks p
    cases f <;> first | (exact (Bool.false_ne_true h).elim) | skip
    match as, ks, h with
    | [a', b'], [], h =>
      change (_ && _) = true at h
      simp only [Bool.and_eq_true, beq_iff_eq] at h
      obtain ⟨⟨⟨⟨h1, h2⟩, h3⟩, h4⟩, h5⟩ := h
      subst h1
      refine PI.imp (pi_range2 (gl_of hx h2) (hx.tab.bi _ (by simpa using h3)) (pa2 (sE a a' hx h4) (sE b b' hx h5) (star_of h4) (star_of h5)) (by rw [star_of h4, star_of h5]; rfl) (by rw [star_of h5]; rfl)) fun σ H R ⟨η, μ, ρ, S, RD, hE, hR, hT, hJ⟩ => ?_
      simp only [wpI] at hT
      refine useA (QD := fun ds S1 => ∃ i j, ds.headD .non = .int i ∧ ds.tail.headD .non = .int j ∧ Sm i ∧ Sm j ∧ RD (rangeD i j) (fun _ => True) S1) hE hR hT fun ds S1 vs μ1 H1 g1 r1 e1 rv1 hl q1 => ?_
      obtain ⟨d, d', v, v', rfl, rfl, rv, rv2⟩ := two_of rv1 hl
      obtain ⟨i, j, e0, e2, s, s2, q⟩ := q1
      rw [List.headD_cons] at e0
      rw [List.tail_cons, List.headD_cons] at e2
      subst e0; subst e2
      cases rv; cases rv2
      exact ⟨i, j, rfl, ⟨s.1, s.2, s2.1, s2.2⟩, hJ _ H1 _ _ S1 μ1 g1 r1 q (jok_range rfl)⟩
    | [], _, h => exact (Bool.false_ne_true h).elim
    | [_], _, h => exact (Bool.false_ne_true h).elim
    | _ :: _ :: _ :: _, _, h => exact (Bool.false_ne_true h).elim
    | [_, _], _ :: _, h => exact (Bool.false_ne_true h).elim
  | .range3 a b c, X, sc, tg, e, hx, h, _ => by
    cases e <;> first | (exact (Bool.false_ne_true h).elim) | skip
    rename_i f as ks p
    cases f <;> first | (exact (Bool.false_ne_true h).elim) | skip
    match as, ks, h with
    | [a', b', c'], [], h =>
      change (_ && _) = true at h
      simp only [Bool.and_eq_true, beq_iff_eq] at h
      obtain ⟨⟨⟨⟨⟨h1, h2⟩, h3⟩, h4⟩, h5⟩, h6⟩ := h
      subst h1
      refine PI.imp (pi_range3 (gl_of hx h2) (hx.tab.bi _ (by simpa using h3)) (pa_cons (sE a a' hx h4) (pa_cons (sE b b' hx h5) (pa_cons (sE c c' hx h6) pa_nil (star_of h6)) (star_of h5)) (star_of h4)) (star_of h4) (by rw [star_of h5, star_of h6]; rfl)) fun σ H R ⟨η, μ, ρ, S, RD, hE, hR, hT, hJ⟩ => ?_
      simp only [wpI] at hT
      refine use hE hR hT fun d S1 v μ1 H1 g1 r1 e1 rv1 q1 => use e1 r1 q1 fun d2 S2 v2 μ2 H2 g2 r2 e2 rv2 q2 => use e2 r2 q2 fun d3 S3 v3 μ3 H3 g3 r3 e3 rv3 q3 => ?_
      obtain ⟨i, j, l, n, rfl, rfl, rfl, hr, q⟩ := q3
      cases rv1; cases rv2; cases rv3
      exact ⟨i, j, l, n, rfl, hr, hJ _ H3 _ _ S3 μ3 ((g1.trans g2).trans g3) r3 q jok_rangeC⟩
    | [], _, h => exact (Bool.false_ne_true h).elim
    | [_], _, h => exact (Bool.false_ne_true h).elim
    | [_, _], _, h => exact (Bool.false_ne_true h).elim
    | _ :: _ :: _ :: _ :: _, _, h => exact (Bool.false_ne_true h).elim
    | [_, _, _], _ :: _, h => exact (Bool.false_ne_true h).elim
  | .items c, X, sc, tg, e, hx, h, ht => by
    cases e <;> first | (exact (Bool.false_ne_true h).elim) | skip
    rename_i f as ks p
    cases f <;> first | (exact (Bool.false_ne_true h).elim) | skip
    rename_i o m ap
    cases tg <;> first | (exfalso; have hz := ht rfl; simp [isTupE] at hz; done) | skip
    match as, ks, h with
    | [], [], h =>
      change (_ && _) = true at h
      simp only [Bool.and_eq_true, beq_iff_eq] at h
      obtain ⟨⟨⟨h1, h2⟩, h3⟩, h4⟩ := h
      subst h1
      refine PI.imp (pi_itemsT (sE c o hx h3) (base_of h4) (by simpa using h2)) fun σ H R ⟨η, μ, ρ, S, RD, hE, hR, hT, hJ⟩ => ?_
      simp only [wpI] at hT
      refine use hE hR hT fun d S1 v μ1 H1 g1 r1 e1 rv1 q1 => ?_
      obtain ⟨n, kvs, rfl, hc, q⟩ := q1
      cases rv1 with
      | @ref n a hn =>
        obtain ⟨a', ha', ob, vs, hv, qk⟩ := r1.cell n _ hc
        rw [hn] at ha'; cases ha'
        exact ⟨a, ob, vs, rfl, hv, hJ _ H1 _ _ S1 μ1 g1 r1 q (jok_items hv qk)⟩
    | _ :: _, _, h => exact (Bool.false_ne_true h).elim
    | [], _ :: _, h => exact (Bool.false_ne_true h).elim
  | .enum a, X, sc, tg, e, hx, h, ht => by
    cases e <;> first | (exact (Bool.false_ne_true h).elim) | skip
    rename_i f as ks p
    cases f <;> first | (exact (Bool.false_ne_true h).elim) | skip
    cases tg <;> first | (exfalso; have hz := ht rfl; simp [isTupE] at hz; done) | skip
    match as, ks, h with
    | [a'], [], h =>
      change (_ && _) = true at h
      simp only [Bool.and_eq_true, beq_iff_eq] at h
      obtain ⟨⟨⟨h1, h2⟩, h3⟩, h4⟩ := h
      subst h1
      refine PI.imp (pi_enumA (gl_of hx h2) (hx.tab.bi _ (by simpa using h3)) (pa_cons (sE a a' hx h4) pa_nil (star_of h4)) (star_of h4)) fun σ H R ⟨η, μ, ρ, S, RD, hE, hR, hT, hJ⟩ => ?_
      simp only [wpI] at hT
      refine use hE hR hT fun d S1 v μ1 H1 g1 r1 e1 rv1 q1 => ?_
      exact enum_it r1 rv1 q1 fun J items I q jok => hJ J H1 items I S1 μ1 g1 r1 q jok
    | [], _, h => exact (Bool.false_ne_true h).elim
    | _ :: _ :: _, _, h => exact (Bool.false_ne_true h).elim
    | [_], _ :: _, h => exact (Bool.false_ne_true h).elim
end
end
end DL
set_option maxHeartbeats 4000000
namespace DL
open PySem PySem.Spec PyProof.Rows L2
theorem swapsX {e t : Expr} {l : Nat} {env : Env} (h : notComp e = true) : swapsWithSole [t] e l env = pure false := swaps_of h
theorem noswX {e : Expr} {x : Str} {p : Pos} {env : Env} (h : notComp e = true) : swappedStores [.Name x p] e env = pure none := by cases e <;> first | rfl | (simp [notComp] at h)
noncomputable def tOfX (K : PySem.W.Frag) (W : WX) (T : DEnv → DStore → QE → QX → Prop) : TE := fun σ H Q => ∃ η μ ρ S QD QX, RE K H η μ ρ σ ∧ Rp K η μ S H ∧ T ρ S QD QX ∧ (∀ v H', Post K η μ H QD v H' → Q v H') ∧ XEnd K η μ H σ QX W
theorem useR {K : PySem.W.Frag} {W : WX} {η μ : List Addr} {ρ : DEnv} {S : DStore} {σ : L2.St} {H : Hp} {T : DEnv → DStore → QE → QX → Prop} {QD : QE} {qx : QX} {Q : VK} (hE : RE K H η μ ρ σ) (hR : Rp K η μ S H) (hT : T ρ S QD qx)
    (hX : XEnd K η μ H σ qx W) (hQ : ∀ d S1 v μ1 H1, Grow μ H μ1 H1 → Rp K η μ1 S1 H1 → RE K H1 η μ1 ρ σ → RV K H1 η μ1 d v → QD d S1 → Q v H1) : tOfX K W T σ H Q :=
  ⟨η, μ, ρ, S, QD, qx, hE, hR, hT, fun v H1 ⟨d, S1, μ1, g, r, rv, q⟩ => hQ d S1 v μ1 H1 g r (hE.ext g.ext) rv q, hX⟩
theorem RE.clr {K : PySem.W.Frag} {H : Hp} {η μ : List Addr} {ρ : DEnv} {σ : L2.St} (r : RE K H η μ ρ σ) (i : Nat) (x : Option V) : RE K H η μ (ρ.set i none) (σ.set i x) := by
  refine ⟨by simp [r.len], fun j d h => ?_⟩
  by_cases e : j = i
  · subst e
    by_cases hl : j < ρ.length
    · rw [List.getElem?_set_self hl] at h; cases h
    · rw [List.getElem?_eq_none (by simp; omega)] at h; cases h
  · rw [List.getElem?_set_ne (Ne.symm e)] at h ⊢
    exact r.get j d h
section
variable {T : Tb} {G : Fns} {k : Nat} {N : List Str}
theorem sR {X : Cx} {sc : SS} {W : WX} : ∀ (r : XR) (e : Expr), Here T G k N X sc → Takes X W → okR T N sc r e = true → PE X e (tOfX X.K W (wpR G r))
  | .fn j es, e, hx, tk, h => by
    cases e <;> first | (exact (Bool.false_ne_true h).elim) | skip
    rename_i f as ks p
    cases f <;> first | (exact (Bool.false_ne_true h).elim) | skip
    cases ks with
    | cons _ _ => cases as <;> exact (Bool.false_ne_true h).elim
    | nil =>
      cases as with
      | nil => exact (Bool.false_ne_true h).elim
      | cons e1 es1 =>
        change (_ && _) = true at h
        simp only [Bool.and_eq_true] at h
        obtain ⟨⟨⟨h1, h2⟩, h3⟩, h4⟩ := h
        split at h4
        · rename_i i hi
          simp only [Bool.and_eq_true, beq_iff_eq, Bool.not_eq_true', Option.isNone_iff_eq_none] at h4
          obtain ⟨⟨h4, hko⟩, hcl⟩ := h4
          subst h4
          obtain ⟨f, fd, ⟨F0, _⟩, ⟨hm0, _⟩, hk, hb0⟩ := hx.tab.fx j i hi
          have F := F0.mono (Nat.sub_le k i.up)
          obtain ⟨⟨c0, h31⟩, _⟩ := okEs_cons h3
          refine PE.imp (pe_callX tk F hx.room hx.gd (gl_of hx h1) (hm0 hcl) hk (hb0 hko) (sEs es _ hx h3) (dbg_of h2).1 (star_of h31) (by rw [stars_of h3]; rfl)) fun σ H Q ⟨η, μ, ρ, S, QD, qx, hE, hR, hT, hQ, hX⟩ => ?_
          simp only [wpR] at hT
          refine useA hE hR hT fun ds S1 vs μ1 H1 g1 r1 e1 rv1 hl q1 => ?_
          exact ⟨η, μ1, S1, ds, QD, qx, r1, rv1, q1, fun v H' p => hQ _ _ (p.from g1), fun c ds S' vs μ' H' C d H'' g' => hX c ds S' vs μ' H' C d H'' (g1.trans g')⟩
        · cases h4
  | .mk cn j es, e, hx, tk, h => by
    cases e <;> first | (exact (Bool.false_ne_true h).elim) | skip
    rename_i f as ks p
    cases f <;> first | (exact (Bool.false_ne_true h).elim) | skip
    cases ks with
    | cons _ _ => cases as <;> exact (Bool.false_ne_true h).elim
    | nil =>
      cases as with
      | nil => exact (Bool.false_ne_true h).elim
      | cons e1 es1 =>
        change (_ && _) = true at h
        simp only [Bool.and_eq_true, beq_iff_eq] at h
        obtain ⟨⟨⟨⟨rfl, h1⟩, h2⟩, h3⟩, h4⟩ := h
        split at h4
        · rename_i i hi
          simp only [Bool.and_eq_true, beq_iff_eq, Bool.not_eq_true'] at h4
          obtain ⟨⟨⟨⟨h6, hko⟩, hcl⟩, hcs⟩, hup⟩ := h4
          obtain ⟨f, fd, ⟨F, hle⟩, ⟨_, hme⟩, hk, hb0⟩ := hx.tab.fx j i hi
          obtain ⟨C, hn, M⟩ := hme _ hcl
          obtain ⟨hm, cc, hmk, hkc⟩ := mk_of' hx.tab hcs hn
          rw [h6] at M
          have MK : Mk X.K C f := ⟨hmk, M.at_, M.fn, hkc⟩
          have hr : Room (k - i.up + 1) X.A := by rw [hup, Nat.sub_add_cancel (by omega)]; exact hx.room
          obtain ⟨⟨c0, h31⟩, _⟩ := okEs_cons h3
          refine PE.imp (pe_makeX tk MK F hr hx.gd (gl_of hx h1) hm (hb0 hko) (sEs es _ hx h3) (dbg_of h2).1 (star_of h31) (by rw [stars_of h3]; rfl)) fun σ H Q ⟨η, μ, ρ, S, QD, qx, hE, hR, hT, hQ, hX⟩ => ?_
          simp only [wpR] at hT
          refine useA hE hR hT fun ds S1 vs μ1 H1 g1 r1 e1 rv1 hl q1 => ?_
          intro x dx hx0 hd0 ne
          obtain ⟨rn, gn⟩ := rp_make r1 hn hx0 hd0 ne
          exact ⟨η, _, _, _, _, qx, rn, .cons (rv_cell r1) (rv1.ext gn.ext), q1, fun v H' p => made_of r1 gn p fun v H' p => hQ _ _ (p.from g1), fun c ds S' vs μ' H' C d H'' g' => hX c ds S' vs μ' H' C d H'' ((g1.trans gn).trans g')⟩
        · cases h4
end
theorem setO_re {K : PySem.W.Frag} {H : Hp} {η μ : List Addr} {ρ : DEnv} {σ : L2.St} {d : D} {v : V} {j : Option Nat} (r : RE K H η μ ρ σ) (h : RV K H η μ d v) : RE K H η μ (setO j ρ d) (match j with | none => σ | some i => σ.set i (some v)) := by
  cases j with
  | none => exact r
  | some i => exact r.set h i
/-- such a call as a statement -/
noncomputable def tX (K : PySem.W.Frag) (W : WX) (j : Option Nat) (T : DEnv → DStore → QE → QX → Prop) : TS := fun D σ H => ∃ η μ ρ S QD qx, RE K H η μ ρ σ ∧ Rp K η μ S H ∧ T ρ S QD qx ∧
  (∀ d S1 v μ1 H1, Grow μ H μ1 H1 → Rp K η μ1 S1 H1 → RE K H1 η μ1 ρ σ → RV K H1 η μ1 d v → QD d S1 → D.nx (match j with | none => σ | some i => σ.set i (some v)) H1) ∧ XEnd K η μ H σ qx W
theorem sX {T : Tb} {G : Fns} {k : Nat} {N : List Str} {X : Cx} {sc : SS} {W : WX} {j : Option Nat} {r : XR} {st : Stmt} (hx : Here T G k N X sc) (tk : Takes X W) (h : okX T N sc j r st = true) : PS X st (tX X.K W j (wpR G r)) := by
  cases j with
  | none =>
    cases st <;> first | (exact (Bool.false_ne_true h).elim) | skip
    change (_ && _) = true at h
    simp only [Bool.and_eq_true] at h
    refine PS.imp (ps_expr (sR r _ hx tk h.1) (swaps_of h.2)) fun E σ H ⟨η, μ, ρ, S, QD, qx, hE, hR, hT, hQ, hX⟩ => ?_
    exact useR hE hR hT hX hQ
  | some i =>
    cases st <;> first | (exact (Bool.false_ne_true h).elim) | skip
    rename_i ts e' p
    match ts, h with
    | [t'], h =>
      cases t' <;> first | (exact (Bool.false_ne_true h).elim) | skip
      change (_ && _) = true at h
      simp only [Bool.and_eq_true] at h
      obtain ⟨⟨⟨h1, h2⟩, h3⟩, h4⟩ := h
      have hp := pure_of h3
      refine PS.imp (ps_asg (sR r _ hx tk h1) (pg_name (i := i) (by rw [hx.nm]; exact hx.nd) (by rw [hx.nm]; exact lits h4) (by rw [hx.scp]; exact .inl hp) (.inr (by rw [hx.scp]; exact hp))) (swapsX h2) (noswX h2) rfl) fun E σ H ⟨η, μ, ρ, S, QD, qx, hE, hR, hT, hQ, hX⟩ => ?_
      exact useR hE hR hT hX hQ
    | [], h => exact (Bool.false_ne_true h).elim
    | t1 :: _ :: _, h => cases t1 <;> exact (Bool.false_ne_true h).elim
/-- what a statement's frame gives beside -/
structure HereS (T : Tb) (G : Fns) (X : Cx) (W : WX) : Prop where
  tk : Takes X W
  no : T.x.rs = false → ∀ c ds S, ¬ G.xc c ds S
  stk : X.stack = X.env :: X.outer
  frm : X.env.frame = some X.env.locals
  exe : X.ex = []
theorem Here.tr {T : Tb} {G : Fns} {k : Nat} {N : List Str} {X : Cx} {sc : SS} (hx : Here T G k N X sc) (pn : List (Addr × Obj)) (xe : Value → Shared → Prop) (h : PassesOwn (model X.prog X.w) X.A X.env xe) : Here T G k N (X.tr pn xe) sc :=
  ⟨hx.tab, hx.nm, hx.nd, hx.scp, hx.kind, hx.calm, hx.room, hx.gd, h, hx.fn, hx.lam⟩
theorem fly_keeps {B hA hZ : Heap} {l : List Env} {e : Addr} {Z : Obj → Prop} (f : HandSPX.FlyingZ B l e Z hA) (k : ∀ b o, hA.get? b = some o → hZ.get? b = some o) : HandSPX.FlyingZ B l e Z hZ := by
  obtain ⟨f1, f2, f3, oe, vs, T, oT, ts, e1, z, d, v1, bT, ne, eT, dT, fl⟩ := f
  exact ⟨fun b o x => k _ _ (f1 b o x), f2, Heap.FunFrames.of_keeps (fun b o x _ => ⟨o, k b o x, rfl⟩) f3, oe, vs, T, oT, ts, k _ _ e1, z, d, v1, bT, ne, k _ _ eT, dT, fl⟩
/-- an object that was not there at the entry is tracked from now on -/
theorem inv_track {X : Cx} {pins : List (Addr × Obj)} {σ : L2.St} {H : Hp} {s : Shared} {a : Addr} {o : HO} (I : Inv X pins σ H s) (na : H a = none) (n0 : X.s_0.heap.get? a = none) (np : ∀ p ∈ X.pn ++ pins, p.1 ≠ a) (nL : a ≠ X.env.locals)
    (nC : ∀ x c, X.env.cells.lookup x = some c → c ≠ a) (new : ObjOk X.prog X.w (upd H a o) s.heap a o) : Inv X pins σ (upd H a o) s := by
  have n1 : ∀ {b : Addr} {u : Obj}, X.s_0.heap.get? b = some u → b ≠ a := fun e z => by rw [z, n0] at e; cases e
  have n2 : ∀ {b : Addr} {u : HO}, H b = some u → b ≠ a := fun e z => by rw [z, na] at e; cases e
  refine ⟨I.ok, I.os, I.bare, ⟨I.base.keep, I.base.slot, fun b u e n q => ?_, I.base.there, fun b xs e => ?_, fun b u v e => ?_, fun b ps e => ?_⟩, I.loc, I.cell, ?_, fun x c e => ?_, fun p hp => ?_, I.hok.laidN (fun _ _ z => z) na new, I.len⟩
  · rw [upd_ne (n1 e)]; exact I.base.free b u e n q
  · have q := I.base.tups b xs e
    rw [upd_ne (n2 q)]; exact q
  · have q := I.base.frzs b u v e
    rw [upd_ne (n2 q)]; exact q
  · obtain ⟨m, q⟩ := I.base.tbls b ps e
    exact ⟨m, by rw [upd_ne (n2 q)]; exact q⟩
  · rw [upd_ne (Ne.symm nL)]; exact I.free
  · rw [upd_ne (nC x c e)]; exact I.freeC x c e
  · obtain ⟨p1, p2, p3⟩ := I.pin p hp
    exact ⟨p1, by rw [upd_ne (np p hp)]; exact p2, p3⟩
/-- what is wished of an exception that is caught so -/
noncomputable def wCat (K : PySem.W.Frag) (c1 c2 : Value) (i k : Nat) (D : Ends) : WX := fun cls d σ H => ∃ C, cls = .ref C ∧ PySem.W.exmAny K cls [c1, c2] = some true ∧
  ∀ a, H a = none → D.nx (((σ.set k (some (.ref a))).set i (some (.ref a))).set k none) (upd H a (exk a C d))
section
variable {X : Cx} {x1 x2 n y : Str} {c1 c2 : Value} {i k kk : Nat} {body : List Stmt} {p1 p2 p3 p4 p5 p6 p7 p8 : Pos} {tb : WX → TS}
theorem ps_cat (hs : X.stack = X.env :: X.outer) (hf : X.env.frame = some X.env.locals) (hex : X.ex = []) (nd : X.N.Nodup) (hk : X.N[k]? = some n) (hi : X.N[i]? = some y) (ln : X.env.scope.names.lookup n = some .local) (ly : X.env.scope.names.lookup y = some .local)
    (dn1 : (n == ("__debug__" : Str)) = false) (dn2 : (n == ("__classdict__" : Str)) = false) (m1 : X.mg x1 = some c1) (m2 : X.mg x2 = some c2) (g1 : Gl X x1) (g2 : Gl X x2) (d1 : (x1 == ("__debug__" : Str)) = false) (d2 : (x2 == ("__debug__" : Str)) = false)
    (hb : ∀ (W : WX) (pn : List (Addr × Obj)) (xe : Value → Shared → Prop), Takes (X.tr pn xe) W → PassesOwn (model X.prog X.w) X.A X.env xe → PSs (X.tr pn xe) body (tb W)) :
    PS X (.Try body [.ExceptHandler (some (.Tuple [.Name x1 p1, .Name x2 p2] kk p3)) (some n) [.Assign [.Name y p4] (.Name n p5) p6] p7] [] [] p8) (fun D σ H => tb (wCat X.K c1 c2 i k D) D σ H) := by
  refine ⟨fun pins s σ H D I h => ?_⟩
  have ok := I.ok
  have fr : X.A.frames = some (X.env :: X.outer) := by rw [ok.frames, hs]
  have lc : Loc X.env.scope n := .inl ln
  let hand : List ExceptHandler := [.ExceptHandler (some (.Tuple [.Name x1 p1, .Name x2 p2] kk p3)) (some n) [.Assign [.Name y p4] (.Name n p5) p6] p7]
  let air : Value → Shared → Prop := fun e sa => wpAny (model X.prog X.w) X.A (noteFrame e X.env) (fun _ sb => wpAny (model X.prog X.w) X.A (setFlight e none) (fun _ sc => wpAny (model X.prog X.w) X.A (handleBy e X.env hand) (SP X pins D) X.xe sc) X.xe sb) X.xe sa
  refine wpAny_Try_except ?_
  refine wpAny_mono ((hb (wCat X.K c1 c2 i k D) (X.pn ++ pins) air (fun u sx xx => ?_) PassesOwn.looking).run [] s σ H D (I.toTry _) h) (fun f sn q => ?_) (fun _ _ q => q)
  · obtain ⟨a, B, sI, pinsB, σB, HB, cls, d, rfl, JB, nb, up, sky, na, os, ag, C, rfl, hex1, hnx⟩ := xx
    have J : Inv X pins σB HB sI := JB.ofTry ok
    have skyA : Sky B (X.env :: X.outer) a (Zc (.ref C) d) X.env.locals sx.heap := by rw [← hs]; exact sky
    show wpAny (model X.prog X.w) X.A (noteFrame (.ref a) X.env) _ _ _
    refine Sky.land Zc.steady fr hf skyA fun hA flA upA => ?_
    have JA : Inv X pins σB HB { sx with heap := hA } := J.landed nb flA.1 (up.trans upA) os ag
    obtain ⟨oA, vA, gA, zA, dA⟩ := flA.there
    have nfr : a ∉ frs (X.env :: X.outer) := fun hm => by
      obtain ⟨_, o2, e2, hn2⟩ := flA.2.2.1.mem hm
      rw [gA] at e2
      cases e2
      exact hn2 _ dA
    have nL : a ≠ X.env.locals := fun z => nfr (List.mem_filterMap.mpr ⟨X.env, by simp, by rw [hf, z]⟩)
    have nF : a ∉ X.fs := fun hm => let ⟨e, he, q⟩ := List.mem_filterMap.mp hm; nfr (List.mem_filterMap.mpr ⟨e, List.mem_cons_of_mem _ he, q⟩)
    have nI : sI.heap.get? a = none := by
      cases e : sI.heap.get? a with
      | none => rfl
      | some o =>
        have z := nb a o e (by rw [hs]; exact nfr)
        rw [flA.2.1] at z
        cases z
    have n0 : X.s_0.heap.get? a = none := by
      cases e : X.s_0.heap.get? a with
      | none => rfl
      | some o =>
        obtain ⟨o2, z⟩ := J.base.there a o e (by rw [hex]; exact fun z => nomatch z)
        rw [nI] at z
        cases z
    have np : ∀ p ∈ X.pn ++ pins, p.1 ≠ a := fun p hp z => by
      have := (J.pin p hp).1
      rw [z, nI] at this
      cases this
    have nC : ∀ x c, X.env.cells.lookup x = some c → c ≠ a := fun x c e z => by
      obtain ⟨v, o, ho, _⟩ := J.cell x c e
      rw [z, nI] at ho
      cases ho
    have SA := JA.suite gA dA na nL nF
    refine wpAny_handleBy_cons (codeAny_handlers_test ?_) (by intro q; cases q)
    refine wpAny_Tuple (wpAny_items_cons (ld_glob (X := X.suite a ((a, oA) :: (X.pn ++ pins))) SA g1 m1 ?_ d1))
    refine wpAny_items_cons (ld_glob (X := X.suite a ((a, oA) :: (X.pn ++ pins))) SA g2 m2 ?_ d2)
    refine wpAny_items_nil ⟨by size_fits, ?_⟩
    let hB : Heap := hA.push { cls := .type "tuple", data := .seq [c1, c2].toArray }
    have kB : ∀ b o, hA.get? b = some o → hB.get? b = some o := fun _ _ z => Heap.get?_push_of_some _ z
    have LT : PySem.W.Looks (model X.prog X.w) hB (typeOf (.ref a)) (.ref C) := fun A Q E s k q => wpAny_typeOf_ref (k _ _ (kB _ _ gA)) (by rw [zA.1]; exact q)
    have LM := PySem.W.exm_tup2 (M := model X.prog X.w) (JA.kIn.keeps kB) LT (Heap.get?_push_size hA rfl) hex1
    refine LM.here ?_
    refine codeAny_handlers_suite_as ?_
    refine HandSPX.lands_againZ (fly_keeps flA kB) fun hD flD upD => ?_
    have JD : Inv X pins σB HB { sx with heap := hD } := J.landed nb flD.1 (((up.trans upA).trans (Heap.UpToSlots.of_keeps kB)).trans upD) os ag
    obtain ⟨oD, vD, gD, zD, dD⟩ := flD.there
    have SD := JD.suite gD dD na nL nF
    refine store_ok (X := X.suite a ((a, oD) :: (X.pn ++ pins))) (v := .ref a) SD nd hk lc rfl (fun s5 S5 => ?_) (.inr ln)
    have hkl : k < σB.length := by rw [J.len]; exact (List.getElem?_eq_some_iff.mp hk).1
    let DS : Ends := { nx := fun σ6 H6 => σ6 = (σB.set k (some (.ref a))).set i (some (.ref a)) ∧ H6 = HB, rt := fun _ _ => False, bk := fun _ _ => False, ct := fun _ _ => False }
    have suite : PSs (X.suite a ((a, oD) :: (X.pn ++ pins))) [.Assign [.Name y p4] (.Name n p5) p6] (fun E σ H => ∃ v, σ[k]? = some (some v) ∧ E.nx (σ.set i (some v)) H) :=
      PSs.imp (pss_one (ps_asg (X := X.suite a ((a, oD) :: (X.pn ++ pins))) (pe_var (X := X.suite a ((a, oD) :: (X.pn ++ pins))) (i := k) hk (.inl ln) dn1 dn2) (pg_name (X := X.suite a ((a, oD) :: (X.pn ++ pins))) (i := i) nd hi (.inl ly) (.inr ly)))) fun E σ H ⟨v, q1, q2⟩ => ⟨v, q1, q2⟩
    refine wpAny_mono (suite.run [] s5 _ HB DS S5 ⟨.ref a, List.getElem?_set_self hkl, rfl, rfl⟩) (fun f s6 q => ?_) (fun _ _ z => False.elim z)
    cases f with
    | next =>
      obtain ⟨σ6, H6, S6, rfl, rfl⟩ := q
      obtain ⟨g6, n6, _⟩ := S6.pin (a, oD) (List.mem_append_left _ List.mem_cons_self)
      have T6 := inv_track (o := exk a C d) (S6.unsuite ok) n6 n0 np nL nC (exk_ok g6 zD dD)
      exact gone_ok T6 nd hk ln fun s7 J7 => ⟨_, _, J7, hnx a na⟩
    | brk => obtain ⟨_, _, _, z⟩ := q; exact z.elim
    | cont => obtain ⟨_, _, _, z⟩ := q; exact z.elim
    | ret u => obtain ⟨_, _, _, _, _, z⟩ := q; exact z.elim
  · cases f with
    | next =>
      obtain ⟨σn, Hn, Jn, q⟩ := q
      exact wpAny_execs_nil ⟨σn, Hn, Jn.ofTry ok, q⟩
    | brk => obtain ⟨σn, Hn, Jn, q⟩ := q; exact ⟨σn, Hn, Jn.ofTry ok, q⟩
    | cont => obtain ⟨σn, Hn, Jn, q⟩ := q; exact ⟨σn, Hn, Jn.ofTry ok, q⟩
    | ret u => obtain ⟨v, σn, Hn, Jn, r, q⟩ := q; exact ⟨v, σn, Hn, Jn.ofTry ok, r, q⟩
end
end DL
set_option maxHeartbeats 4000000
namespace DL
open PySem PySem.Spec PyProof.Rows L2
section
variable {T : Tb} {G : Fns} {k : Nat} {N : List Str}
noncomputable def rSetK : V → V → V → Hp → (Hp → Prop) → Prop := fun o i v H Q => ∃ (a : Addr) (kvs : List (L2.Key × V)) (ks : L2.Key), o = .ref a ∧ i = kV ks ∧ H a = some (.dK kvs) ∧ kvs.length < sizeLine ∧ Q (upd H a (.dK (putK kvs ks v)))
theorem set_dictK {X : Cx} (hu : X.A.units + 1 < cLine) : PSet X rSetK := by
  intro pins s σ H o i v ov iv u Q I ro ri rv h
  obtain ⟨a, kvs, ks, rfl, rfl, ha, hl, q⟩ := h
  cases ro
  exact d_setItem hu I (.k ha hl) ri rv fun s' I' => ⟨_, I', q⟩
theorem okT_dsub {sc : SS} {a : CE} {es : List CE} {e : Expr} (h : okT T N sc (.dsub a es) e = true) : ∃ o i b c p, e = .Subscript o (.Tuple i b c) p ∧ okE T N sc a o = true ∧ okEs T N sc es i = true ∧ es.length ≤ 1000 := by
  cases e <;> first | (exact (Bool.false_ne_true h).elim) | skip
  rename_i o i p
  cases i <;> first | (exact (Bool.false_ne_true h).elim) | skip
  change (_ && _) = true at h
  simp only [Bool.and_eq_true, decide_eq_true_eq] at h
  exact ⟨_, _, _, _, _, rfl, h.1.1, h.1.2, h.2⟩
theorem dsub_run {K : PySem.W.Frag} {η μ : List Addr} {S : DStore} {H : Hp} {G : Fns} {a : CE} {es : List CE} {d : D} {v : V} {ρ : DEnv} {σ : L2.St} {QD : DEnv → DStore → Prop} {Q : L2.St → Hp → Prop} (hE : RE K H η μ ρ σ) (hR : Rp K η μ S H) (rv : RV K H η μ d v) (hT : wpG G (.dsub a es) d ρ S QD) (hlen : es.length ≤ 1000)
    (hQ : ∀ S' μ' H', Grow μ H μ' H' → Rp K η μ' S' H' → RE K H' η μ' ρ σ → QD ρ S' → Q σ H') : gSub (tOf K (wpE G a)) (tTup (aOf K es.length (wpEs G es))) rSetD v σ H Q := by
  simp only [wpG] at hT
  refine use hE hR hT fun d2 S2 v2 μ2 H2 g2 r2 e2 rv2 q2 => useA e2 r2 q2 fun ys S3 vs μ3 H3 g3 r3 e3 rv3 hl q3 => ⟨?_, fun p hp => ?_⟩
  · have : (1000 : Nat) ≤ sizeLine := by decide
    omega
  obtain ⟨n, kvs, ks, rfl, ec, hk, hlen, q⟩ := q3
  have g4 := grow_new (o := .tup vs) r3 hp
  have r4 := rp_new (o := .tup vs) r3 hp
  have eb : vs = ks.map kV := keysOf_rv rv3 hk
  have rv2' := (rv2.ext (η' := η) g3.ext).ext (η' := η) g4.ext
  cases rv2' with
  | @ref n a1 hn =>
    obtain ⟨a', ha', ws, hw, qs⟩ := r4.cell n _ ec
    rw [hn] at ha'; cases ha'
    have rv1' := ((rv.ext (η' := η) g2.ext).ext (η' := η) g3.ext).ext (η' := η) g4.ext
    have qp := qs.put (k := ks) rv1'
    refine ⟨a1, p, ws, ks, rfl, rfl, hw, by rw [← eb]; exact upd_same, by rw [← qs.length]; exact hlen, ?_⟩
    have gg := grow_set (o := .dT (putK ws ks v)) r4 hn hw
    exact hQ _ _ _ (((g2.trans g3).trans g4).trans gg) (rp_setD r4 hn hw qp) ((e3.ext g4.ext).ext gg.ext) q
theorem dsub3_run {K : PySem.W.Frag} {η μ : List Addr} {S : DStore} {H : Hp} {G : Fns} {a1 a2 a3 : CE} {k1 k2 k3 : List CE} {ds : List D} {vs : List V} {ρ : DEnv} {σ : L2.St} {QD : DEnv → DStore → Prop} {Q : L2.St → Hp → Prop} (hE : RE K H η μ ρ σ) (hR : Rp K η μ S H) (rv : RVs K H η μ ds vs) (hT : wpGs G [.dsub a1 k1, .dsub a2 k2, .dsub a3 k3] ds ρ S QD) (hl : ds.length = 3)
    (l1 : k1.length ≤ 1000) (l2 : k2.length ≤ 1000) (l3 : k3.length ≤ 1000) (hQ : ∀ S' μ' H', Grow μ H μ' H' → Rp K η μ' S' H' → RE K H' η μ' ρ σ → QD ρ S' → Q σ H') :
    gCons (gSub (tOf K (wpE G a1)) (tTup (aOf K k1.length (wpEs G k1))) rSetD) (gCons (gSub (tOf K (wpE G a2)) (tTup (aOf K k2.length (wpEs G k2))) rSetD) (gCons (gSub (tOf K (wpE G a3)) (tTup (aOf K k3.length (wpEs G k3))) rSetD) gNil)) vs σ H Q := by
  match ds, rv, hl with
  | [x, y, z], .cons rx (.cons ry (.cons rz .nil)), _ =>
    simp only [wpGs] at hT
    obtain ⟨_, _, e, hT⟩ := hT
    cases e
    refine ⟨_, _, rfl, dsub_run hE hR rx hT l1 fun S1 μ1 H1 g1 r1 e1 q1 => ?_⟩
    obtain ⟨_, _, e, q1⟩ := q1
    cases e
    refine ⟨_, _, rfl, dsub_run e1 r1 (ry.ext g1.ext) q1 l2 fun S2 μ2 H2 g2 r2 e2 q2 => ?_⟩
    obtain ⟨_, _, e, q2⟩ := q2
    cases e
    refine ⟨_, _, rfl, dsub_run e2 r2 ((rz.ext g1.ext).ext g2.ext) q2 l3 fun S3 μ3 H3 g3 r3 e3 q3 => ?_⟩
    exact ⟨rfl, hQ _ _ _ ((g1.trans g2).trans g3) r3 e3 q3⟩
theorem okT_sub {sc : SS} {a i : CE} {e : Expr} (h : okT T N sc (.sub a i) e = true) : ∃ o k p, e = .Subscript o k p ∧ okE T N sc a o = true ∧ okE T N sc i k = true ∧ notSl k = true := by
  cases e <;> first | (exact (Bool.false_ne_true h).elim) | skip
  rename_i o k p
  change (_ && _) = true at h
  simp only [Bool.and_eq_true] at h
  exact ⟨_, _, _, rfl, h.1.1, h.1.2, h.2⟩
theorem sub_run {K : PySem.W.Frag} {η μ : List Addr} {S : DStore} {H : Hp} {G : Fns} {a i : CE} {d : D} {v : V} {ρ : DEnv} {σ : L2.St} {QD : DEnv → DStore → Prop} {Q : L2.St → Hp → Prop} (hE : RE K H η μ ρ σ) (hR : Rp K η μ S H) (rv : RV K H η μ d v) (hT : wpG G (.sub a i) d ρ S QD)
    (hQ : ∀ S' μ' H', Grow μ H μ' H' → Rp K η μ' S' H' → RE K H' η μ' ρ σ → QD ρ S' → Q σ H') : gSub (tOf K (wpE G a)) (tOf K (wpE G i)) rSetL v σ H Q := by
  simp only [wpG] at hT
  refine use hE hR hT fun d2 S2 v2 μ2 H2 g2 r2 e2 rv2 q2 => use e2 r2 q2 fun d3 S3 v3 μ3 H3 g3 r3 e3 rv3 q3 => ?_
  obtain ⟨n, xs, kk, j, rfl, rfl, ec, ei, q⟩ := q3
  cases rv3
  have rv2' := rv2.ext (η' := η) g3.ext
  cases rv2' with
  | @ref n a hn =>
    obtain ⟨a', ha', vs, hvs, qs⟩ := r3.cell n _ ec
    rw [hn] at ha'; cases ha'
    have rv1' := (rv.ext (η' := η) g2.ext).ext (η' := η) g3.ext
    have qs' := qs.set rv1' j
    refine ⟨_, _, _, j, rfl, rfl, hvs, by rw [← qs.length]; exact ei, ?_⟩
    have gg := grow_set (o := .lst (vs.set j v)) r3 hn hvs
    exact hQ _ _ _ ((g2.trans g3).trans gg) (rp_set r3 hn hvs qs') (e3.ext gg.ext) q
theorem kput_run {K : PySem.W.Frag} {η μ : List Addr} {S : DStore} {H : Hp} {G : Fns} {a i : CE} {d : D} {v : V} {ρ : DEnv} {σ : L2.St} {QD : DEnv → DStore → Prop} {Q : L2.St → Hp → Prop} (hE : RE K H η μ ρ σ) (hR : Rp K η μ S H) (rv : RV K H η μ d v) (hT : wpG G (.kput a i) d ρ S QD)
    (hQ : ∀ S' μ' H', Grow μ H μ' H' → Rp K η μ' S' H' → RE K H' η μ' ρ σ → QD ρ S' → Q σ H') : gSub (tOf K (wpE G a)) (tOf K (wpE G i)) rSetK v σ H Q := by
  simp only [wpG] at hT
  refine use hE hR hT fun d2 S2 v2 μ2 H2 g2 r2 e2 rv2 q2 => use e2 r2 q2 fun d3 S3 v3 μ3 H3 g3 r3 e3 rv3 q3 => ?_
  obtain ⟨n, kvs, k9, rfl, ec, hk, hlen, q⟩ := q3
  have ek := keyOf_rv rv3 hk
  subst ek
  have rv2' := rv2.ext (η' := η) g3.ext
  cases rv2' with
  | @ref n a1 hn =>
    obtain ⟨a', ha', ws, hw, qs⟩ := r3.cell n _ ec
    rw [hn] at ha'; cases ha'
    have rv1' := (rv.ext (η' := η) g2.ext).ext (η' := η) g3.ext
    have qp := qs.put (k := k9) rv1'
    have gg := grow_set (o := .dK (putK ws k9 v)) r3 hn hw
    exact ⟨a1, ws, k9, rfl, rfl, hw, by rw [← qs.length]; exact hlen, hQ _ _ _ ((g2.trans g3).trans gg) (rp_setK r3 hn hw qp) (e3.ext gg.ext) q⟩
noncomputable def gOf1 (K : PySem.W.Frag) (G : Fns) : CT → TG
  | .name i => gName i
  | .sub a i => gSub (tOf K (wpE G a)) (tOf K (wpE G i)) rSetL
  | .kput a i => gSub (tOf K (wpE G a)) (tOf K (wpE G i)) rSetK
  | _ => fun _ _ _ _ => False
theorem gOf1_run {K : PySem.W.Frag} {η μ : List Addr} {S : DStore} {H : Hp} {G : Fns} {d : D} {v : V} {ρ : DEnv} {σ : L2.St} {QD : DEnv → DStore → Prop} {Q : L2.St → Hp → Prop} : (t : CT) → t1B t = true → (hE : RE K H η μ ρ σ) → (hR : Rp K η μ S H) → (rv : RV K H η μ d v) → (hT : wpG G t d ρ S QD) →
    (hQ : ∀ ρ' σ' S' μ' H', Grow μ H μ' H' → Rp K η μ' S' H' → RE K H' η μ' ρ' σ' → QD ρ' S' → Q σ' H') → gOf1 K G t v σ H Q
  | .name i, _, hE, hR, rv, hT, hQ => by simp only [wpG] at hT; exact hQ _ _ _ _ _ .refl hR (hE.set rv i) hT
  | .sub a i, _, hE, hR, rv, hT, hQ => sub_run hE hR rv hT fun S' μ' H' g r e q => hQ _ _ _ _ _ g r e q
  | .kput a i, _, hE, hR, rv, hT, hQ => kput_run hE hR rv hT fun S' μ' H' g r e q => hQ _ _ _ _ _ g r e q
  | .tup _, h, _, _, _, _, _ => (Bool.false_ne_true h).elim
  | .dsub _ _, h, _, _, _, _, _ => (Bool.false_ne_true h).elim
  | .ksub _ _, h, _, _, _, _, _ => (Bool.false_ne_true h).elim
  | .sput _ _, h, _, _, _, _, _ => (Bool.false_ne_true h).elim
theorem gOf2_run {K : PySem.W.Frag} {η μ : List Addr} {S : DStore} {H : Hp} {G : Fns} {t1 t2 : CT} {ds : List D} {vs : List V} {ρ : DEnv} {σ : L2.St} {QD : DEnv → DStore → Prop} {Q : L2.St → Hp → Prop} (b1 : t1B t1 = true) (b2 : t1B t2 = true) (hE : RE K H η μ ρ σ) (hR : Rp K η μ S H) (rv : RVs K H η μ ds vs)
    (hT : wpGs G [t1, t2] ds ρ S QD) (hl : ds.length = [t1, t2].length) (hQ : ∀ ρ' σ' S' μ' H', Grow μ H μ' H' → Rp K η μ' S' H' → RE K H' η μ' ρ' σ' → QD ρ' S' → Q σ' H') :
    gCons (gOf1 K G t1) (gCons (gOf1 K G t2) gNil) vs σ H Q := by
  match ds, rv, hl with
  | [x, y], .cons rx (.cons ry .nil), _ =>
    simp only [wpGs] at hT
    obtain ⟨_, _, e, hT⟩ := hT
    cases e
    refine ⟨_, _, rfl, gOf1_run t1 b1 hE hR rx hT fun ρ1 σ1 S1 μ1 H1 g1 r1 e1 q1 => ?_⟩
    obtain ⟨_, _, e, q1⟩ := q1
    cases e
    refine ⟨_, _, rfl, gOf1_run t2 b2 e1 r1 (ry.ext g1.ext) q1 fun ρ2 σ2 S2 μ2 H2 g2 r2 e2 q2 => ?_⟩
    exact ⟨rfl, hQ _ _ _ _ _ (g1.trans g2) r2 e2 q2⟩
theorem gOf1_pg {X : Cx} {sc : SS} : (t : CT) → (e : Expr) → t1B t = true → Here T G k N X sc → okT T N sc t e = true → PG X e (gOf1 X.K G t) ∧ ∀ es, (assignEach (e :: es) X.env).map (·.2) = assign e X.env :: (assignEach es X.env).map (·.2)
  | .name i, e, _, hx, h => ⟨sT (.name i) e hx h rfl, by
      cases e <;> first | (exact (Bool.false_ne_true h).elim) | skip
      exact fun _ => rfl⟩
  | .sub a i, e, _, hx, h => by
    obtain ⟨o1, i1, p1, rfl, u1, u2, u3⟩ := okT_sub h
    exact ⟨pg_sub (pos := p1) (sE a _ hx u1) (sE i _ hx u2) set_list (sub_of u3), fun _ => rfl⟩
  | .kput a i, e, _, hx, h => by
    cases e <;> first | (exact (Bool.false_ne_true h).elim) | skip
    rename_i o i1 p1
    change (_ && _) = true at h
    simp only [Bool.and_eq_true] at h
    exact ⟨pg_sub (pos := p1) (sE a _ hx h.1.1) (sE i _ hx h.1.2) (set_dictK (by have := hx.room.units; omega)) (sub_of h.2), fun _ => rfl⟩
  | .tup _, _, h, _, _ => (Bool.false_ne_true h).elim
  | .dsub _ _, _, h, _, _ => (Bool.false_ne_true h).elim
  | .ksub _ _, _, h, _, _ => (Bool.false_ne_true h).elim
  | .sput _ _, _, h, _, _ => (Bool.false_ne_true h).elim
theorem gOf1_star {sc : SS} {t1 t2 : CT} {y1 y2 : Expr} {env : Env} (b1 : t1B t1 = true) (b2 : t1B t2 = true) (h1 : okT T N sc t1 y1 = true) (h2 : okT T N sc t2 y2 = true) : (assignEach [y1, y2] env).findIdx? (·.1) = none := by
  cases y1 <;> first | (exfalso; cases t1 <;> first | exact (Bool.false_ne_true h1).elim | exact (Bool.false_ne_true b1).elim) | (cases y2 <;> first | rfl | (exfalso; cases t2 <;> first | exact (Bool.false_ne_true h2).elim | exact (Bool.false_ne_true b2).elim))
theorem asg1_of {sc : SS} {t : CT} {e : Expr} {env : Env} (h : okT T N sc t e = true) : (assignEach [e] env).map (·.2) = [assign e env] := by
  cases e <;> first | rfl | (exfalso; cases t <;> exact (Bool.false_ne_true h).elim)
theorem swapsS_of {e t : Expr} {l : Nat} {env : Env} (h : (notComp e || notNm t) = true) : swapsWithSole [t] e l env = pure false := by
  show swapsWith e (some t) l env = pure false
  have h' : notComp e = true ∨ notNm t = true := by simpa using h
  rcases h' with h1 | h1
  · exact swaps_of h1
  · cases t <;> first | (simp [notNm] at h1; done) | (cases e <;> rfl)
theorem swapsC_of {sc : SS} {e t : Expr} {l : Nat} {env : Env} (hs : env.scope = sc.s) (h : (notComp e || notNm t || cellNm sc t) = true) : swapsWithSole [t] e l env = pure false := by
  cases hc : cellNm sc t with
  | false =>
    rw [hc, Bool.or_false] at h
    exact swapsS_of h
  | true =>
    cases t <;> first | (simp [cellNm] at hc; done) | skip
    rename_i x p
    have hx : sc.s.names.lookup x = some .cell := by
      unfold cellNm at hc
      simp only at hc
      cases e : sc.s.names.lookup x with
      | none => rw [e] at hc; cases hc
      | some k => rw [e] at hc; cases k <;> first | rfl | (cases hc)
    have ky : env.kindOf x = some .cell := by show env.scope.names.lookup x = _; rw [hs]; exact hx
    have kf : (env.kindOf x == some NameKind.local) = false := by rw [ky]; rfl
    show swapsWith e (some (.Name x p)) l env = pure false
    unfold swapsWith
    cases e <;> first | rfl | (simp only [kf, Bool.and_false, Bool.false_and])
theorem aug_ip {X : Cx} (op : Operator) : ∃ ti, PIp X op ti ∧ ∀ {K η μ S H x y v u} {F : Int → D → DStore → Prop} {Q : VK}, Rp K η μ S H → RV K H η μ x v → RV K H η μ y u →
    (i2 x y fun a b => match op with
      | .Add => F 0 (.int (a + b)) S
      | .Sub => F 0 (.int (a - b)) S
      | _ => False) → (∀ i, F 0 (.int i) S → Q (.int i) H) → ti v u H Q := by
  cases op
  case Add => exact ⟨_, ip_add, fun r rx ry h hQ => by
    cases rx <;> cases ry <;> simp only [i2] at h
    exact ⟨_, _, rfl, rfl, hQ _ h⟩⟩
  case Sub => exact ⟨_, ip_sub, fun r rx ry h hQ => by
    cases rx <;> cases ry <;> simp only [i2] at h
    exact ⟨_, _, rfl, rfl, hQ _ h⟩⟩
  all_goals exact ⟨fun _ _ _ _ => False, fun _ _ _ _ _ _ _ _ _ _ _ _ h => h.elim, fun r rx ry h hQ => by
    cases rx <;> cases ry <;> simp only [i2] at h⟩
set_option maxHeartbeats 4000000 in
mutual
theorem sS : ∀ (c : CS) {X : Cx} {sc : SS} {W : WX} (st : Stmt), Here T G k N X sc → HereS T G X W → okS T N sc c st = true → PS X st (sOf X.K G.xc W (wpS G c))
  | .ret e, X, sc, W, st, hx, hs, h => by
    cases st <;> first | (exact (Bool.false_ne_true h).elim) | skip
    rename_i o p
    cases o <;> first | (exact (Bool.false_ne_true h).elim) | skip
    rename_i e'
    change okE T N sc e e' = true at h
    refine PS.imp (ps_ret (sE e _ hx h)) fun E σ H ⟨η, μ, ρ, S, ED, hE, hR, hT, hQ⟩ => ?_
    simp only [wpS] at hT
    exact use hE hR hT fun d S1 v μ1 H1 g1 r1 e1 rv1 q1 => hQ.rt _ _ _ _ _ g1 r1 rv1 q1
  | .brk, X, sc, W, st, hx, hs, h => by
    cases st <;> first | (exact (Bool.false_ne_true h).elim) | skip
    refine PS.imp ps_break fun E σ H ⟨η, μ, ρ, S, ED, hE, hR, hT, hQ⟩ => ?_
    simp only [wpS] at hT
    exact hQ.bk _ _ _ _ _ .refl hR hE hT
  | .never, X, sc, W, st, hx, hs, h => by
    refine PS.imp ps_never fun E σ H ⟨η, μ, ρ, S, ED, hE, hR, hT, hQ⟩ => ?_
    simp only [wpS] at hT
  | .asg t e, X, sc, W, st, hx, hs, h => by
    cases st <;> first | (exact (Bool.false_ne_true h).elim) | skip
    rename_i ts e' p
    match ts, h with
    | [t'], h =>
      change (_ && _) = true at h
      simp only [Bool.and_eq_true] at h
      obtain ⟨⟨⟨⟨h1, h2⟩, h3⟩, h4⟩, h5⟩ := h
      by_cases hs : t.simple = true
      · refine PS.imp (ps_asg (sE e _ hx h2) (sT t _ hx h1 hs) (swapsC_of hx.scp h3) (noSwap_of hx h4) (asg1_of h1)) fun E σ H ⟨η, μ, ρ, S, ED, hE, hR, hT, hQ⟩ => ?_
        simp only [wpS] at hT
        refine use hE hR hT fun d S1 v μ1 H1 g1 r1 e1 rv1 q1 => ?_
        exact gS_run t hs r1 e1 rv1 q1 fun ρ' σ' e' _ _ q => hQ.nx _ _ _ _ _ g1 r1 e' q
      · cases t with
        | name i => exact absurd rfl hs
        | tup ts =>
          have hs' : CT.simple (.tup ts) = false := by simpa using hs
          rw [hs', Bool.false_or] at h5
          unfold asgT at h5
          simp only at h5
          split at h5
          · rename_i a1 k1 a2 k2 a3 k3
            have h1' := h1
            cases t' <;> first | (exact (Bool.false_ne_true h1).elim) | skip
            rename_i els kt pt
            change okTs T N sc _ els = true at h1
            match els, h1, h1', h3, h4 with
            | [], h1, _, _, _ => simp [okTs] at h1
            | [_], h1, _, _, _ => simp [okTs] at h1
            | [_, _], h1, _, _, _ => simp [okTs] at h1
            | _ :: _ :: _ :: _ :: _, h1, _, _, _ => simp [okTs] at h1
            | [t1, t2, t3], h1, h1', h3, h4 =>
              simp only [okTs, Bool.and_eq_true] at h1
              obtain ⟨x1, x2, x3, _⟩ := h1
              obtain ⟨o1, i1, b1, c1, p1, rfl, u1, u2, u3⟩ := okT_dsub x1
              obtain ⟨o2, i2, b2, c2, p2, rfl, v1, v2, v3⟩ := okT_dsub x2
              obtain ⟨o3, i3, b3, c3, p3, rfl, w1, w2, w3⟩ := okT_dsub x3
              have hu : X.A.units + 1 < cLine := by have := hx.room.units; omega
              have P := pgs_cons (pg_sub (pos := p1) (sE a1 _ hx u1) (pe_tup (x1 := b1) (pos := c1) (sEs k1 _ hx u2)) (set_dictT hu) (sub_of rfl)) (pgs_cons (pg_sub (pos := p2) (sE a2 _ hx v1) (pe_tup (x1 := b2) (pos := c2) (sEs k2 _ hx v2)) (set_dictT hu) (sub_of rfl)) (pgs_cons (pg_sub (pos := p3) (sE a3 _ hx w1) (pe_tup (x1 := b3) (pos := c3) (sEs k3 _ hx w2)) (set_dictT hu) (sub_of rfl)) pgs_nil))
              refine PS.imp (ps_asg (sE e _ hx h2) (pg_or (pg_tup (k := kt) (pos := pt) hx.calm P) (pg_lst hx.calm P)) (swapsC_of hx.scp h3) (noSwap_of hx h4) (asg1_of h1')) fun E σ H ⟨η, μ, ρ, S, ED, hE, hR, hT, hQ⟩ => ?_
              simp only [wpS, wpG] at hT
              refine use hE hR hT fun d S1 v μ1 H1 g1 r1 e1 rv1 q1 => ?_
              unfold unpD at q1
              split at q1
              · obtain ⟨hl, q1⟩ := q1
                cases rv1 with
                | tup hq qs => exact .inl ⟨_, _, rfl, hq, by rw [← qs.length]; exact hl, dsub3_run e1 r1 qs q1 hl u3 v3 w3 fun S' μ' H' g r e q => hQ.nx _ _ _ _ _ (g1.trans g) r e q⟩
              · obtain ⟨xs, ex, hl, q1⟩ := q1
                obtain ⟨b, ws, rfl, hb, qs⟩ := lst_of r1 rv1 ex
                exact .inr ⟨_, _, rfl, .inl (.inl hb), by rw [← qs.length]; exact hl, dsub3_run e1 r1 qs q1 hl u3 v3 w3 fun S' μ' H' g r e q => hQ.nx _ _ _ _ _ (g1.trans g) r e q⟩
          · rename_i t1 t2
            have h1' := h1
            cases t' <;> first | (exact (Bool.false_ne_true h1).elim) | skip
            rename_i els kt pt
            change okTs T N sc _ els = true at h1
            match els, h1, h1', h3, h4 with
            | [], h1, _, _, _ => simp [okTs] at h1
            | [_], h1, _, _, _ => simp [okTs] at h1
            | _ :: _ :: _ :: _, h1, _, _, _ => simp [okTs] at h1
            | [y1, y2], h1, h1', h3, h4 =>
              simp only [okTs, Bool.and_eq_true] at h1
              obtain ⟨x1, x2, _⟩ := h1
              rw [Bool.and_eq_true] at h5
              obtain ⟨P1, s1⟩ := gOf1_pg t1 y1 h5.1 hx x1
              obtain ⟨P2, s2⟩ := gOf1_pg t2 y2 h5.2 hx x2
              have P := pgs_cons P1 (pgs_cons P2 pgs_nil (s2 [])) (s1 [y2])
              refine PS.imp (ps_asg (sE e _ hx h2) (pg_or (pg_tup (k := kt) (pos := pt) hx.calm P (by rw [← List.length_map (f := (·.2)), s1, List.length_cons, s2] <;> rfl) (gOf1_star h5.1 h5.2 x1 x2)) (pg_lst hx.calm P (by rw [← List.length_map (f := (·.2)), s1, List.length_cons, s2] <;> rfl) (gOf1_star h5.1 h5.2 x1 x2))) (swapsC_of hx.scp h3) (noSwap_of hx h4) (asg1_of h1')) fun E σ H ⟨η, μ, ρ, S, ED, hE, hR, hT, hQ⟩ => ?_
              simp only [wpS, wpG] at hT
              refine use hE hR hT fun d S1 v μ1 H1 g1 r1 e1 rv1 q1 => ?_
              unfold unpD at q1
              split at q1
              · obtain ⟨hl, q1⟩ := q1
                cases rv1 with
                | tup hq qs => exact .inl ⟨_, _, rfl, hq, by rw [← qs.length]; exact hl, gOf2_run h5.1 h5.2 e1 r1 qs q1 hl fun ρ' σ' S' μ' H' g r e q => hQ.nx _ _ _ _ _ (g1.trans g) r e q⟩
              · obtain ⟨xs, ex, hl, q1⟩ := q1
                obtain ⟨b, ws, rfl, hb, qs⟩ := lst_of r1 rv1 ex
                exact .inr ⟨_, _, rfl, .inl (.inl hb), by rw [← qs.length]; exact hl, gOf2_run h5.1 h5.2 e1 r1 qs q1 hl fun ρ' σ' S' μ' H' g r e q => hQ.nx _ _ _ _ _ (g1.trans g) r e q⟩
          · cases h5
        | sub a i =>
          cases t' <;> first | (exact (Bool.false_ne_true h1).elim) | skip
          have h1' := h1
          change (_ && _) = true at h1
          simp only [Bool.and_eq_true] at h1
          refine PS.imp (ps_asg (sE e _ hx h2) (pg_sub (sE a _ hx h1.1.1) (sE i _ hx h1.1.2) set_list (sub_of h1.2)) (swapsC_of hx.scp h3) (noSwap_of hx h4) (asg1_of h1')) fun E σ H ⟨η, μ, ρ, S, ED, hE, hR, hT, hQ⟩ => ?_
          simp only [wpS, wpG] at hT
          refine use hE hR hT fun d S1 v μ1 H1 g1 r1 e1 rv1 q1 => use e1 r1 q1 fun d2 S2 v2 μ2 H2 g2 r2 e2 rv2 q2 => use e2 r2 q2 fun d3 S3 v3 μ3 H3 g3 r3 e3 rv3 q3 => ?_
          obtain ⟨n, xs, kk, j, rfl, rfl, ec, ei, q⟩ := q3
          cases rv3
          have rv2' := rv2.ext (η' := η) g3.ext
          cases rv2' with
          | @ref n a hn =>
            obtain ⟨a', ha', vs, hvs, qs⟩ := r3.cell n _ ec
            rw [hn] at ha'; cases ha'
            have rv1' := (rv1.ext (η' := η) g2.ext).ext (η' := η) g3.ext
            have qs' := qs.set rv1' j
            refine ⟨_, _, _, j, rfl, rfl, hvs, by rw [← qs.length]; exact ei, ?_⟩
            have gg := grow_set (o := .lst (vs.set j v)) r3 hn hvs
            exact hQ.nx _ _ _ _ _ (((g1.trans g2).trans g3).trans gg) (rp_set r3 hn hvs qs') (e3.ext gg.ext) q
        | ksub a i =>
          cases t' <;> first | (exact (Bool.false_ne_true h1).elim) | skip
          have h1' := h1
          change (_ && _) = true at h1
          simp only [Bool.and_eq_true] at h1
          refine PS.imp (ps_asg (sE e _ hx h2) (pg_sub (sE a _ hx h1.1.1) (sE i _ hx h1.1.2) (set_dictT (by have := hx.room.units; omega)) (sub_of h1.2)) (swapsC_of hx.scp h3) (noSwap_of hx h4) (asg1_of h1')) fun E σ H ⟨η, μ, ρ, S, ED, hE, hR, hT, hQ⟩ => ?_
          simp only [wpS, wpG] at hT
          refine use hE hR hT fun d S1 v μ1 H1 g1 r1 e1 rv1 q1 => use e1 r1 q1 fun d2 S2 v2 μ2 H2 g2 r2 e2 rv2 q2 => use e2 r2 q2 fun d3 S3 v3 μ3 H3 g3 r3 e3 rv3 q3 => ?_
          obtain ⟨n, kvs, ks, rfl, rfl, ec, hlen, q⟩ := q3
          cases rv3 with
          | @key b1 _ hb =>
            have rv2' := rv2.ext (η' := η) g3.ext
            cases rv2' with
            | @ref n a1 hn =>
              obtain ⟨a', ha', ws, hw, qs⟩ := r3.cell n _ ec
              rw [hn] at ha'; cases ha'
              have rv1' := (rv1.ext (η' := η) g2.ext).ext (η' := η) g3.ext
              have qp := qs.put (k := ks) rv1'
              refine ⟨a1, b1, ws, ks, rfl, rfl, hw, hb, by rw [← qs.length]; exact hlen, ?_⟩
              have gg := grow_set (o := .dT (putK ws ks v)) r3 hn hw
              exact hQ.nx _ _ _ _ _ (((g1.trans g2).trans g3).trans gg) (rp_setD r3 hn hw qp) (e3.ext gg.ext) q
        | sput a i =>
          cases t' <;> first | (exact (Bool.false_ne_true h1).elim) | skip
          have h1' := h1
          change (_ && _) = true at h1
          simp only [Bool.and_eq_true] at h1
          refine PS.imp (ps_asg (sE e _ hx h2) (pg_sub (sE a _ hx h1.1.1) (sE i _ hx h1.1.2) (set_3 (by have := hx.room.units; omega)) (sub_of h1.2)) (swapsC_of hx.scp h3) (noSwap_of hx h4) (asg1_of h1')) fun E σ H ⟨η, μ, ρ, S, ED, hE, hR, hT, hQ⟩ => ?_
          simp only [wpS, wpG] at hT
          refine use hE hR hT fun d S1 v μ1 H1 g1 r1 e1 rv1 q1 => use e1 r1 q1 fun d2 S2 v2 μ2 H2 g2 r2 e2 rv2 q2 => use e2 r2 q2 fun d3 S3 v3' μ3 H3 g3 r3 e3 rv3 q3 => ?_
          obtain ⟨n, ks, stt, rfl, rfl, rfl, ec, hlen, q⟩ := q3
          cases rv1
          have rv2' := rv2.ext (η' := η) g3.ext
          cases rv2' with
          | @ref n a1 hn =>
            obtain ⟨a', ha', xs, hw, rfl, qs⟩ := r3.cell n _ ec
            rw [hn] at ha'; cases ha'
            cases rv3 with
            | @tup b0 _ _ hq vv =>
              have ev := k3_vals (st := stt) vv
              subst ev
              have gg := grow_set (o := StD a1 (put3 xs stt b0)) r3 hn hw (std_frz)
              refine ⟨a1, b0, xs, stt, rfl, rfl, rfl, hw, qs, hq, by rw [List.length_map] at hlen; exact hlen, ?_⟩
              refine hQ.nx _ _ _ _ _ (((g1.trans g2).trans g3).trans gg) (rp_set3 r3 hn hw (ys := put3 xs stt b0) (put3_ks qs hq)) (e3.ext gg.ext) ?_
              rw [put3_map]
              exact q
        | kput a i =>
          cases t' <;> first | (exact (Bool.false_ne_true h1).elim) | skip
          have h1' := h1
          change (_ && _) = true at h1
          simp only [Bool.and_eq_true] at h1
          refine PS.imp (ps_asg (sE e _ hx h2) (pg_sub (sE a _ hx h1.1.1) (sE i _ hx h1.1.2) (set_dictK (by have := hx.room.units; omega)) (sub_of h1.2)) (swapsC_of hx.scp h3) (noSwap_of hx h4) (asg1_of h1')) fun E σ H ⟨η, μ, ρ, S, ED, hE, hR, hT, hQ⟩ => ?_
          simp only [wpS, wpG] at hT
          refine use hE hR hT fun d S1 v μ1 H1 g1 r1 e1 rv1 q1 => use e1 r1 q1 fun d2 S2 v2 μ2 H2 g2 r2 e2 rv2 q2 => use e2 r2 q2 fun d3 S3 v3 μ3 H3 g3 r3 e3 rv3 q3 => ?_
          obtain ⟨n, kvs, k9, rfl, ec, hk, hlen, q⟩ := q3
          have ek := keyOf_rv rv3 hk
          subst ek
          have rv2' := rv2.ext (η' := η) g3.ext
          cases rv2' with
          | @ref n a1 hn =>
            obtain ⟨a', ha', ws, hw, qs⟩ := r3.cell n _ ec
            rw [hn] at ha'; cases ha'
            have rv1' := (rv1.ext (η' := η) g2.ext).ext (η' := η) g3.ext
            have qp := qs.put (k := k9) rv1'
            have gg := grow_set (o := .dK (putK ws k9 v)) r3 hn hw
            exact ⟨a1, ws, k9, rfl, rfl, hw, by rw [← qs.length]; exact hlen, hQ.nx _ _ _ _ _ (((g1.trans g2).trans g3).trans gg) (rp_setK r3 hn hw qp) (e3.ext gg.ext) q⟩
        | dsub a es =>
          cases t' <;> first | (exact (Bool.false_ne_true h1).elim) | skip
          rename_i o i p'
          cases i <;> first | (exact (Bool.false_ne_true h1).elim) | skip
          have h1' := h1
          change (_ && _) = true at h1
          simp only [Bool.and_eq_true, decide_eq_true_eq] at h1
          refine PS.imp (ps_asg (sE e _ hx h2) (pg_sub (sE a _ hx h1.1.1) (pe_tup (sEs es _ hx h1.1.2)) (set_dictT (by have := hx.room.units; omega)) (sub_of rfl)) (swapsC_of hx.scp h3) (noSwap_of hx h4) (asg1_of h1')) fun E σ H ⟨η, μ, ρ, S, ED, hE, hR, hT, hQ⟩ => ?_
          simp only [wpS, wpG] at hT
          refine use hE hR hT fun d S1 v μ1 H1 g1 r1 e1 rv1 q1 => use e1 r1 q1 fun d2 S2 v2 μ2 H2 g2 r2 e2 rv2 q2 => useA e2 r2 q2 fun ys S3 vs μ3 H3 g3 r3 e3 rv3 hl q3 => ⟨?_, fun p hp => ?_⟩
          · have : (1000 : Nat) ≤ sizeLine := by decide
            omega
          obtain ⟨n, kvs, ks, rfl, ec, hk, hlen, q⟩ := q3
          have g4 := grow_new (o := .tup vs) r3 hp
          have r4 := rp_new (o := .tup vs) r3 hp
          have eb : vs = ks.map kV := keysOf_rv rv3 hk
          have rv2' := (rv2.ext (η' := η) g3.ext).ext (η' := η) g4.ext
          cases rv2' with
          | @ref n a1 hn =>
            obtain ⟨a', ha', ws, hw, qs⟩ := r4.cell n _ ec
            rw [hn] at ha'; cases ha'
            have rv1' := ((rv1.ext (η' := η) g2.ext).ext (η' := η) g3.ext).ext (η' := η) g4.ext
            have qp := qs.put (k := ks) rv1'
            refine ⟨a1, p, ws, ks, rfl, rfl, hw, by rw [← eb]; exact upd_same, by rw [← qs.length]; exact hlen, ?_⟩
            have gg := grow_set (o := .dT (putK ws ks v)) r4 hn hw
            exact hQ.nx _ _ _ _ _ ((((g1.trans g2).trans g3).trans g4).trans gg) (rp_setD r4 hn hw qp) ((e3.ext g4.ext).ext gg.ext) q
    | [], h => exact (Bool.false_ne_true h).elim
    | _ :: _ :: _, h => exact (Bool.false_ne_true h).elim
  | .par2 i j a b, X, sc, W, st, hx, hs, h => by
    obtain ⟨x, px, y, py, kt, pt, a', b', k2, p2, p, rfl, h⟩ := kPar2_of h
    change (_ && _) = true at h
    simp only [Bool.and_eq_true, decide_eq_true_eq] at h
    obtain ⟨⟨⟨⟨⟨⟨⟨h1, h2⟩, h3⟩, h4⟩, h5⟩, h6⟩, h7⟩, h8⟩ := h
    have hw := swN_of (k1 := kt) (p1 := pt) (k2 := k2) (p2 := p2) hx (lits h8)
    refine PS.imp (ps_par hx.calm (by rw [hx.nm]; exact hx.nd) (by rw [hx.nm]; exact lits h3) (by rw [hx.nm]; exact lits h4) h5 (by rw [hx.scp]; exact pure_of h1) (by rw [hx.scp]; exact pure_of h2) (pa2 (sE a _ hx h6) (sE b _ hx h7) (star_of h6) (star_of h7)) hw rfl) fun E σ H ⟨η, μ, ρ, S, ED, hE, hR, hT, hQ⟩ => ?_
    simp only [wpS] at hT
    refine useA (QD := fun ds S1 => ED.nx ((ρ.set i (some (ds.headD .non))).set j (some (ds.tail.headD .non))) S1) hE hR hT fun ds S1 vs μ1 H1 g1 r1 e1 rv1 hl q1 => ?_
    obtain ⟨d, d', v, v', rfl, rfl, rv, rv2⟩ := two_of rv1 hl
    exact ⟨v, v', rfl, hQ.nx _ _ _ _ _ g1 r1 ((e1.set rv i).set rv2 j) q1⟩
  | .aug i op e, X, sc, W, st, hx, hs, h => by
    cases st <;> first | (exact (Bool.false_ne_true h).elim) | skip
    rename_i t op' e' p
    cases t <;> first | (exact (Bool.false_ne_true h).elim) | skip
    change (_ && _) = true at h
    simp only [Bool.and_eq_true, beq_iff_eq] at h
    obtain ⟨⟨⟨h1, h2⟩, h3⟩, h4⟩ := h
    subst h1
    obtain ⟨l1, l2⟩ := loc_of h2
    obtain ⟨ti, hti, hrun⟩ := aug_ip (X := X) op
    refine PS.imp (ps_aug (i := i) (by rw [hx.nm]; exact hx.nd) (by rw [hx.nm]; exact lits (by simpa using h3)) (by rw [hx.scp]; exact l1) (sE e _ hx h4) hti (l2.imp (fun z => hx.fn _ z) fun z => by rw [hx.scp]; exact z)) fun E σ H ⟨η, μ, ρ, S, ED, hE, hR, hT, hQ⟩ => ?_
    simp only [wpS] at hT
    obtain ⟨x, ex, hT⟩ := hT
    obtain ⟨v, ev, rv⟩ := hE.get i x ex
    refine ⟨v, ev, use hE hR hT fun d S1 u μ1 H1 g1 r1 e1 rv1 q1 => ?_⟩
    refine hrun (F := fun _ d S1 => ED.nx (ρ.set i (some d)) S1) r1 (rv.ext g1.ext) rv1 ?_ fun z q => hQ.nx _ _ _ _ _ g1 r1 (e1.set (.int z) i) q
    revert q1
    unfold i2
    split
    · cases op <;> exact id
    · exact id
  | .append a e, X, sc, W, st, hx, hs, h => by
    cases st <;> first | (exact (Bool.false_ne_true h).elim) | skip
    rename_i e0 p
    cases e0 <;> first | (exact (Bool.false_ne_true h).elim) | skip
    rename_i f args kws cp
    cases f <;> first | (exact (Bool.false_ne_true h).elim) | skip
    rename_i o m ap
    obtain ⟨e', rfl, rfl⟩ : ∃ e', args = [e'] ∧ kws = [] := by
      match args, kws, h with
      | [_], [], _ => exact ⟨_, rfl, rfl⟩
      | [], _, h => exact (Bool.false_ne_true h).elim
      | _ :: _ :: _, _, h => exact (Bool.false_ne_true h).elim
      | [_], _ :: _, h => exact (Bool.false_ne_true h).elim
    change (_ && _) = true at h
    simp only [Bool.and_eq_true, beq_iff_eq] at h
    obtain ⟨⟨⟨⟨h1, h2⟩, h3⟩, h4⟩, h5⟩ := h
    subst h1
    refine PS.imp (ps_expr (pe_bm PySem.F.plainAttrs_list PySem.F.slot_list_append PySem.F.type_list_append mt_append (sE a _ hx h3) (pa1 (sE e _ hx h4) (star_of h4)) (base_of h5) (by rw [star_of h4]; rfl) (by simpa using h2) (star_of h4) rfl)) fun E σ H ⟨η, μ, ρ, S, ED, hE, hR, hT, hQ⟩ => ?_
    simp only [wpS] at hT
    refine use hE hR hT fun d S1 v μ1 H1 g1 r1 e1 rv1 q1 => ?_
    obtain ⟨n, rfl, hn, q1⟩ := q1
    cases rv1 with
    | @ref n a1 hn1 =>
      obtain ⟨a2, ha2, vs2, hv2, qs2⟩ : ∃ a2, μ1[n]? = some a2 ∧ ∃ vs, H1 a2 = some (.lst vs) ∧ True := by
        obtain ⟨ds0, hn⟩ := hn
        obtain ⟨a2, ha2, vs, e, q⟩ := r1.cell n _ hn
        exact ⟨a2, ha2, vs, e, trivial⟩
      rw [hn1] at ha2; cases ha2
      refine ⟨.inl ⟨rfl, _, .inl (.inl hv2)⟩, ?_⟩
      refine useA (QD := fun ds S2 => ∃ xs, S2[n]? = some (.lst xs) ∧ xs.length < sizeLine ∧ ED.nx ρ (S2.set n (.lst (xs ++ [ds.headD .non])))) e1 r1 q1 fun ds S2 vs μ2 H2 g2 r2 e2 rv2 hl q2 => ?_
      obtain ⟨y, u, rfl, rfl, ru⟩ := one_of rv2 hl
      obtain ⟨xs, ec, hz, q⟩ := q2
      obtain ⟨a3, ha3, ws, hw, qs⟩ := r2.cell n _ ec
      obtain ⟨more, em⟩ := g2.pre
      have ha1 : μ2[n]? = some a1 := by
        rw [em, List.getElem?_append_left (List.getElem?_eq_some_iff.mp hn1).1]; exact hn1
      rw [ha1] at ha3; cases ha3
      refine ⟨a1, ws, u, rfl, rfl, hw, by rw [← qs.length]; exact hz, ?_⟩
      have gg := grow_set (o := .lst (ws ++ [u])) r2 ha1 hw
      exact hQ.nx _ _ _ _ _ ((g1.trans g2).trans gg) (rp_set r2 ha1 hw (qs.append (.cons ru .nil))) (e2.ext gg.ext) q
  | .extend a e, X, sc, W, st, hx, hs, h => by
    cases st <;> first | (exact (Bool.false_ne_true h).elim) | skip
    rename_i e0 p
    cases e0 <;> first | (exact (Bool.false_ne_true h).elim) | skip
    rename_i f args kws cp
    cases f <;> first | (exact (Bool.false_ne_true h).elim) | skip
    rename_i o m ap
    obtain ⟨e', rfl, rfl⟩ : ∃ e', args = [e'] ∧ kws = [] := by
      match args, kws, h with
      | [_], [], _ => exact ⟨_, rfl, rfl⟩
      | [], _, h => exact (Bool.false_ne_true h).elim
      | _ :: _ :: _, _, h => exact (Bool.false_ne_true h).elim
      | [_], _ :: _, h => exact (Bool.false_ne_true h).elim
    change (_ && _) = true at h
    simp only [Bool.and_eq_true, beq_iff_eq] at h
    obtain ⟨⟨⟨⟨h1, h2⟩, h3⟩, h4⟩, h5⟩ := h
    subst h1
    refine PS.imp (ps_expr (pe_bm PySem.F.plainAttrs_list PySem.F.slot_list_extend PySem.F.type_list_extend mt_extend (sE a _ hx h3) (pa1 (sE e _ hx h4) (star_of h4)) (base_of h5) (by rw [star_of h4]; rfl) (by simpa using h2) (star_of h4) rfl)) fun E σ H ⟨η, μ, ρ, S, ED, hE, hR, hT, hQ⟩ => ?_
    simp only [wpS] at hT
    refine use hE hR hT fun d S1 v μ1 H1 g1 r1 e1 rv1 q1 => ?_
    obtain ⟨n, rfl, hn, q1⟩ := q1
    cases rv1 with
    | @ref n a1 hn1 =>
      obtain ⟨a2, ha2, vs2, hv2, qs2⟩ : ∃ a2, μ1[n]? = some a2 ∧ ∃ vs, H1 a2 = some (.lst vs) ∧ True := by
        obtain ⟨ds0, hn⟩ := hn
        obtain ⟨a2, ha2, vs, e, q⟩ := r1.cell n _ hn
        exact ⟨a2, ha2, vs, e, trivial⟩
      rw [hn1] at ha2; cases ha2
      refine ⟨.inl ⟨rfl, _, .inl (.inl hv2)⟩, ?_⟩
      refine useA (QD := fun ds S2 => ∃ xs zs, S2[n]? = some (.lst xs) ∧ lstOf S2 (ds.headD .non) = some zs ∧ xs.length + zs.length ≤ sizeLine ∧ ED.nx ρ (S2.set n (.lst (xs ++ zs)))) e1 r1 q1 fun ds S2 vs μ2 H2 g2 r2 e2 rv2 hl q2 => ?_
      obtain ⟨y, u, rfl, rfl, ru⟩ := one_of rv2 hl
      obtain ⟨xs, zs, ec, ez, hz, q⟩ := q2
      obtain ⟨a3, ha3, ws, hw, qs⟩ := r2.cell n _ ec
      obtain ⟨more, em⟩ := g2.pre
      have ha1 : μ2[n]? = some a1 := by
        rw [em, List.getElem?_append_left (List.getElem?_eq_some_iff.mp hn1).1]; exact hn1
      rw [ha1] at ha3; cases ha3
      obtain ⟨b4, us, rfl, hb4, qz⟩ := lst_of r2 ru ez
      refine ⟨a1, b4, ws, us, rfl, rfl, hw, hb4, by rw [← qs.length, ← qz.length]; exact hz, ?_⟩
      have gg := grow_set (o := .lst (ws ++ us)) r2 ha1 hw
      exact hQ.nx _ _ _ _ _ ((g1.trans g2).trans gg) (rp_set r2 ha1 hw (qs.append qz)) (e2.ext gg.ext) q
  | .if_ c a b, X, sc, W, st, hx, hs, h => by
    cases st <;> first | (exact (Bool.false_ne_true h).elim) | skip
    change (_ && _) = true at h
    simp only [Bool.and_eq_true] at h
    refine PS.imp (ps_if (sB c _ hx h.1.1) (sSs a _ hx hs h.1.2) (sSs b _ hx hs h.2)) fun E σ H ⟨η, μ, ρ, S, ED, hE, hR, hT, hQ⟩ => ?_
    simp only [wpS] at hT
    refine useB hE hR hT fun r S1 μ1 H1 g1 r1 e1 q1 => ?_
    cases r with
    | true => simp only [if_true] at q1 ⊢; exact useS e1 r1 q1 (hQ.grow g1)
    | false => simp only [Bool.false_eq_true, if_false] at q1 ⊢; exact useS e1 r1 q1 (hQ.grow g1)
  | .for_ t it b, X, sc, W, st, hx, hs, h => by
    cases st <;> first | (exact (Bool.false_ne_true h).elim) | skip
    rename_i t' it' bd el p
    cases el <;> first | (exact (Bool.false_ne_true h).elim) | skip
    change (_ && _) = true at h
    simp only [Bool.and_eq_true] at h
    obtain ⟨⟨⟨⟨h1, h2⟩, h3⟩, h4⟩, h9⟩ := h
    refine PS.imp (ps_for hx.xe hx.calm (sI it _ _ hx h3 (pairs_of h9)) (sT t _ hx h1 h2) (sSs b _ hx hs h4) (sI_fold it _ h3)) fun E σ H ⟨η, μ, ρ, S, ED, hE, hR, hT, hQ⟩ => ?_
    simp only [wpS] at hT
    refine ⟨η, μ, ρ, S, _, hE, hR, hT, fun J H1 items I S1 μ1 g1 r1 hW jok => ?_⟩
    obtain ⟨W, w0, wst, turn, fin⟩ := hW
    refine ⟨fun i m σ' H' => i ≤ items.length ∧ m = items.length - i ∧ ∃ ρ' S' μ', Grow μ1 H1 μ' H' ∧ Rp X.K η μ' S' H' ∧ RE X.K H' η μ' ρ' σ' ∧ W i ρ' S', ⟨items.length, Nat.zero_le _, rfl, ρ, S1, μ1, .refl, r1, hE.ext g1.ext, w0⟩, ?_⟩
    rintro i m σ2 H2 ⟨hi, rfl, ρ2, S2, μ2, g2, r2, e2, w2⟩
    obtain ⟨jgo, jstop⟩ := jok i η μ2 S2 H2 g2.ext r2 (wst i ρ2 S2 w2)
    by_cases hlt : i < items.length
    · right
      obtain ⟨go, yl⟩ := jgo hlt
      refine ⟨go, fun σ' H' => i + 1 ≤ items.length ∧ ∃ ρ' S' μ', Grow μ1 H1 μ' H' ∧ Rp X.K η μ' S' H' ∧ RE X.K H' η μ' ρ' σ' ∧ W (i + 1) ρ' S', fun σ' H' hN => ⟨items.length - (i + 1), by omega, hN.1, rfl, hN.2⟩, fun x H3 hy => ?_⟩
      obtain ⟨gy, ry, d, hd, rvd⟩ := yl x H3 hy
      refine gS_run t h2 ry (e2.ext gy.ext) rvd (turn i d ρ2 S2 w2 hd) fun ρ' σ' e' _ _ q => ?_
      have gg : Grow μ1 H1 μ2 H3 := g2.trans gy
      have hG := hQ.grow (g1.trans gg)
      exact useS e' ry q ⟨fun ρ' S' σ' μ' H' g r e w => ⟨hlt, ρ', S', μ', gg.trans g, r, e, w⟩, hG.rt, hG.nx, fun ρ' S' σ' μ' H' g r e w => ⟨hlt, ρ', S', μ', gg.trans g, r, e, w⟩, hG.xc⟩
    · left
      have hi' : i = items.length := by omega
      subst hi'
      exact ⟨jstop (Nat.le_refl _) (Nat.le_refl _), hQ.nx _ _ _ _ _ (g1.trans g2) r2 e2 (fin _ _ w2)⟩
  | .lock s, X, sc, W, st, hx, hs, h => by
    change (_ && _) = true at h
    simp only [Bool.and_eq_true, Bool.not_eq_true'] at h
    refine PS.imp (ps_lock (sS s st hx hs h.2)) fun E σ H ⟨η, μ, ρ, S, ED, hE, hR, hT, hQ⟩ => ?_
    rw [wpS] at hT
    obtain ⟨n, kvs, hc, hT⟩ := hT
    obtain ⟨a, ha, vs, hv, qk⟩ := hR.cell n _ hc
    have hm := List.mem_of_getElem? ha
    refine ⟨a, .dT vs, hv, trivial, fun od => ?_⟩
    have g0 := grow_set (o := .frz od (.dT vs)) hR ha hv
    have qk0 := qk.ext (g0.ext (η := η))
    have fin : ∀ μ' H', Grow μ (upd H a (.frz od (.dT vs))) μ' H' → (μ'[n]? = some a ∧ H' a = some (.frz od (.dT vs)) ∧ RKs X.K H' η μ' kvs vs) := fun μ' H' g => by
      refine ⟨?_, g.frz _ _ _ upd_same, qk0.ext g.ext⟩
      obtain ⟨more, em⟩ := g.pre
      rw [em, List.getElem?_append_left (List.getElem?_eq_some_iff.mp ha).1]; exact ha
    refine ⟨η, μ, ρ, S.set n (.dlk kvs), _, hE.ext g0.ext, rp_lock hR ha hv qk, hT, ⟨fun ρ' S' σ' μ' H' g r e q => ?_, fun d S' v μ' H' g r e q => ?_, fun ρ' S' σ' μ' H' g r e q => ?_, fun ρ' S' σ' μ' H' g r e q => ?_, fun σ' c ds S' vs μ2 H2 C d H3 g2 r2 rv2 n2 xr q => (hs.no h.1 _ _ _ q).elim⟩⟩
    · obtain ⟨f1, f2, f3⟩ := fin _ _ g
      exact ⟨f2, hQ.nx _ _ _ _ _ (grow_un lkT (fun _ _ z => nomatch z) hm hv g) (rp_unlock r f1 f2 f3) (e.un lkT (List.mem_of_getElem? f1) f2) q⟩
    · obtain ⟨f1, f2, f3⟩ := fin _ _ g
      exact ⟨f2, hQ.rt _ _ _ _ _ (grow_un lkT (fun _ _ z => nomatch z) hm hv g) (rp_unlock r f1 f2 f3) (e.un lkT (List.mem_of_getElem? f1) f2) q⟩
    · obtain ⟨f1, f2, f3⟩ := fin _ _ g
      exact ⟨f2, hQ.bk _ _ _ _ _ (grow_un lkT (fun _ _ z => nomatch z) hm hv g) (rp_unlock r f1 f2 f3) (e.un lkT (List.mem_of_getElem? f1) f2) q⟩
    · obtain ⟨f1, f2, f3⟩ := fin _ _ g
      exact ⟨f2, hQ.ct _ _ _ _ _ (grow_un lkT (fun _ _ z => nomatch z) hm hv g) (rp_unlock r f1 f2 f3) (e.un lkT (List.mem_of_getElem? f1) f2) q⟩
  | .raise0 c, X, sc, W, st, hx, hs, h => by
    cases st <;> first | (exact (Bool.false_ne_true h).elim) | skip
    rename_i o1 o2 p
    cases o1 <;> first | (exact (Bool.false_ne_true h).elim) | skip
    rename_i e
    cases o2 with
    | some _ => cases e <;> first | (exact (Bool.false_ne_true h).elim) | (rename_i f as ks p2; cases f <;> first | (exact (Bool.false_ne_true h).elim) | (cases as <;> first | (exact (Bool.false_ne_true h).elim) | (cases ks <;> exact (Bool.false_ne_true h).elim)))
    | none =>
    cases e <;> first | (exact (Bool.false_ne_true h).elim) | skip
    rename_i f as ks p2
    cases f <;> first | (exact (Bool.false_ne_true h).elim) | skip
    cases as with
    | cons _ _ => exact (Bool.false_ne_true h).elim
    | nil =>
      cases ks with
      | cons _ _ => exact (Bool.false_ne_true h).elim
      | nil =>
        change (_ && _) = true at h
        simp only [Bool.and_eq_true, beq_iff_eq, List.contains_iff_mem, List.isEmpty_iff] at h
        obtain ⟨⟨⟨⟨⟨rfl, h1⟩, h2⟩, h4⟩, h5⟩, h6⟩ := h
        obtain ⟨⟨C, xc⟩, hk4⟩ := hx.tab.ex _ h4
        refine PS.imp (ps_raise hx.calm hs.tk (xc.mk0 h6 X rfl rfl rfl rfl rfl (hx.room.mono hk4) (gl_of hx h1) (dbg_of h2).1 _ p2)) fun E σ H ⟨η, μ, ρ, S, ED, hE, hR, hT, hQ⟩ => ?_
        rw [wpS] at hT
        exact hQ.xc σ _ [] S [] μ H C none H .refl hR .nil xc.ns ⟨h5, .inl ⟨h6, rfl, rfl, rfl⟩⟩ hT
  | .tryC j r k2 i, X, sc, W, st, hx, hs, h => by
    obtain ⟨s, x1, x2, n, y, z, kk, p1, p2, p3, p4, p5, p6, p7, p8, rfl, h⟩ := kTryC_ex h
    replace h : (_ && _) = true := h
    simp only [Bool.and_eq_true, beq_iff_eq, List.contains_iff_mem] at h
    obtain ⟨⟨⟨⟨⟨⟨⟨⟨⟨⟨⟨⟨⟨h1, g1⟩, d1⟩, g2⟩, d2⟩, hxs⟩, m1⟩, m2⟩, h6⟩, h7⟩, rfl⟩, h9⟩, h10⟩, h12⟩ := h
    have hne : T.x.isn ≠ [] := fun e => by rw [e] at m1; cases m1
    have A := isn_xa hx hne
    have hp9 := pure_of h9
    have who : ∀ {x : Str} {C : Addr}, x ∈ T.x.isn → x ≠ ("ValueError" : Str) → x ≠ ("LookupError" : Str) → PySem.W.nsIn X.K mainGlobals x = some (some (.ref C)) → X.mg x = some (.ref C) := fun {x C} hm n1 n2 e => by
      rcases A.ns x hm with z | z | ⟨C', e1, e2⟩
      · exact absurd z n1
      · exact absurd z n2
      · rw [e] at e1; cases e1; exact e2
    have key : ∀ {C1 C2 : Addr}, X.mg x1 = some (.ref C1) → X.mg x2 = some (.ref C2) → PS X _ (fun D σ H => tX X.K (wCat X.K (.ref C1) (.ref C2) i k2 D) j (wpR G r) D σ H) := fun {C1 C2} e1 e2 =>
      ps_cat (tb := fun W' => tX X.K W' j (wpR G r)) (p1 := p1) (p2 := p2) (p3 := p3) (p4 := p4) (p5 := p5) (p6 := p6) (p7 := p7) (p8 := p8) (kk := kk) hs.stk hs.frm hs.exe (by rw [hx.nm]; exact hx.nd) (by rw [hx.nm]; exact h10) (by rw [hx.nm]; exact h7) (by rw [hx.scp]; exact hp9) (by rw [hx.scp]; exact pure_of h6) (dbg_of h12).1 (dbg_of h12).2
        e1 e2 (gl_of hx g1) (gl_of hx g2) (dbg_of d1).1 (dbg_of d2).1 (fun W' pn xe tk po => pss_one (sX (hx.tr pn xe po) tk h1))
    have fin : ∀ {C1 C2 : Addr}, (∀ c ∈ xnm, ∀ C, PySem.W.nsIn X.K mainGlobals c = some (some (.ref C)) → PySem.W.exmAny X.K (.ref C) [.ref C1, .ref C2] = some true) → ∀ E σ H, sOf X.K G.xc W (wpS G (.tryC j r k2 i)) E σ H → tX X.K (wCat X.K (.ref C1) (.ref C2) i k2 E) j (wpR G r) E σ H := fun {C1 C2} hA E σ H ⟨η, μ, ρ, S, ED, hE, hR, hT, hQ⟩ => by
      rw [wpS] at hT
      refine ⟨η, μ, ρ, S, _, _, hE, hR, hT, fun d S1 v μ1 H1 g1 r1 e1 rv1 q1 => hQ.nx _ _ _ _ _ g1 r1 (setO_re e1 rv1) q1, fun c' ds S2 vs μ2 H2 C' d H3 g2 r2 rv2 n2 xr q => ?_⟩
      obtain ⟨hlt, q⟩ := q
      obtain ⟨r3, g3⟩ := xr.keep r2
      refine ⟨C', rfl, hA c' xr.1 C' n2, fun a ha => ?_⟩
      have xk : XFk c' vs d H3 η μ2 := by
        obtain ⟨_, ⟨z1, z2, z3, _⟩ | ⟨f2, v2, dx, z1, z2, z3, z4, rfl⟩⟩ := xr
        · exact .inl ⟨z1, z2, z3⟩
        · have fr := r2.fresh z4
          exact .inr ⟨f2, v2, dx, z1, z2, z3, upd_same, fr.1, fr.2⟩
      obtain ⟨r4, g4⟩ := rp_exn r3 n2 ha (rv2.ext g3.ext) xr.1 xk
      have e3 := (hE.ext ((g2.trans g3).trans g4).ext).clr k2 (some (.ref a))
      exact hQ.nx _ _ _ _ _ ((g2.trans g3).trans g4) r4 ((e3.set (rv_cell r3) i).clr k2 none) q
    rcases Bool.or_eq_true_iff.mp hxs with hxs | hxs
    · simp only [Bool.and_eq_true, beq_iff_eq] at hxs
      obtain ⟨rfl, rfl⟩ := hxs
      by_cases hne2 : ∃ c ∈ xnm, ∃ C, PySem.W.nsIn X.K mainGlobals c = some (some (.ref C))
      · obtain ⟨c, hc, C, hn⟩ := hne2
        obtain ⟨_, _, C1, C2, n1, n2, _⟩ := A.at hc hn
        refine PS.imp (key (who m1 (by decide) (by decide) n1) (who m2 (by decide) (by decide) n2)) (fin fun c' hc' C' hn' => ?_)
        obtain ⟨_, _, C3, C4, n3, n4, x3, _⟩ := A.at hc' hn'
        rw [n1] at n3; rw [n2] at n4; cases n3; cases n4
        exact x3
      · rcases A.ns _ m1 with z | z | ⟨C1, n1, e1⟩
        · exact absurd z (by decide)
        · exact absurd z (by decide)
        rcases A.ns _ m2 with z | z | ⟨C2, n2, e2⟩
        · exact absurd z (by decide)
        · exact absurd z (by decide)
        exact PS.imp (key e1 e2) (fin fun c' hc' C' hn' => absurd ⟨c', hc', C', hn'⟩ hne2)
    · simp only [Bool.and_eq_true, beq_iff_eq] at hxs
      obtain ⟨rfl, rfl⟩ := hxs
      by_cases hne2 : ∃ c ∈ xnm, ∃ C, PySem.W.nsIn X.K mainGlobals c = some (some (.ref C))
      · obtain ⟨c, hc, C, hn⟩ := hne2
        obtain ⟨_, _, C1, C2, n1, n2, _⟩ := A.at hc hn
        refine PS.imp (key (who m2 (by decide) (by decide) n2) (who m1 (by decide) (by decide) n1)) (fin fun c' hc' C' hn' => ?_)
        obtain ⟨_, _, C3, C4, n3, n4, _, x4⟩ := A.at hc' hn'
        rw [n1] at n3; rw [n2] at n4; cases n3; cases n4
        exact x4
      · rcases A.ns _ m1 with z | z | ⟨C1, n1, e1⟩
        · exact absurd z (by decide)
        · exact absurd z (by decide)
        rcases A.ns _ m2 with z | z | ⟨C2, n2, e2⟩
        · exact absurd z (by decide)
        · exact absurd z (by decide)
        exact PS.imp (key e2 e1) (fin fun c' hc' C' hn' => absurd ⟨c', hc', C', hn'⟩ hne2)
theorem sSs : ∀ (cs : List CS) {X : Cx} {sc : SS} {W : WX} (sts : List Stmt), Here T G k N X sc → HereS T G X W → okSs T N sc cs sts = true → PSs X sts (sOf X.K G.xc W (wpSs G cs))
  | [], X, sc, W, sts, hx, hs, h => by
    cases sts with
    | cons _ _ => simp [okSs] at h
    | nil =>
      refine PSs.imp pss_nil fun E σ H ⟨η, μ, ρ, S, ED, hE, hR, hT, hQ⟩ => ?_
      simp only [wpSs] at hT
      exact hQ.nx _ _ _ _ _ .refl hR hE hT
  | c :: cs, X, sc, W, sts, hx, hs, h => by
    cases sts with
    | nil => simp [okSs] at h
    | cons st sts =>
      simp only [okSs, Bool.and_eq_true] at h
      refine PSs.imp (pss_cons (sS c st hx hs h.1) (sSs cs sts hx hs h.2)) fun E σ H ⟨η, μ, ρ, S, ED, hE, hR, hT, hQ⟩ => ?_
      simp only [wpSs] at hT
      refine useS hE hR hT ⟨fun ρ' S' σ' μ' H' g r e q => useS e r q (hQ.grow g), hQ.rt, hQ.bk, hQ.ct, fun σ' => hQ.xc σ'⟩
end
end
end DL
namespace DL
open PySem PySem.Spec PyProof.Rows L2
theorem takes_not {X : Cx} : Takes X (fun _ _ _ _ => False) := fun _ _ ⟨_, _, _, _, _, _, _, _, _, _, _, _, _, _, _, _, w⟩ => w.elim
noncomputable def startD (n : Nat) (ds : List D) : DEnv := ds.map some ++ List.replicate (n - ds.length) none
theorem re_start {K : PySem.W.Frag} {H : Hp} {η μ : List Addr} {N : List Str} {ds : List D} {vs : List V} (r : RVs K H η μ ds vs) : RE K H η μ (startD N.length ds) (L2.start N vs) := by
  have hl := r.length
  refine ⟨by simp [startD, L2.start, hl], fun i d h => ?_⟩
  unfold startD at h
  by_cases hi : i < ds.length
  · rw [List.getElem?_append_left (by simpa using hi), List.getElem?_map] at h
    rw [List.getElem?_eq_getElem hi] at h
    simp at h
    obtain ⟨v, e, rv⟩ := r.get (List.getElem?_eq_getElem hi)
    refine ⟨v, ?_, by rw [← h]; exact rv⟩
    unfold L2.start
    rw [List.getElem?_append_left (by simp; omega), List.getElem?_map, e]
    rfl
  · rw [List.getElem?_append_right (by simpa using hi), List.getElem?_replicate] at h
    split at h <;> simp at h
/-- what the def that makes the lambda asks of its code object -/
noncomputable def LamB (K : PySem.W.Frag) (base : Heap) (mg : Str → Option Value) : Prop := ∀ c P, PySem.W.tabIn K "next_pace" = some (c, P) → LamX.TabB base mg c P
theorem tab_code {K : PySem.W.Frag} {f c P : Addr} {oc : Value} {od : Option Addr} {osl : Array (Option Value)} {fd : FuncData} (hn : PySem.W.nsIn K mainGlobals "next_pace" = some (some (.ref f))) (lk : K.lookup f = some ⟨oc, od, .func fd, osl⟩)
    (ht : PySem.W.tabIn K "next_pace" = some (c, P)) : fd.code = .ref c := by
  unfold PySem.W.tabIn at ht
  rw [hn] at ht
  simp only [lk] at ht
  split at ht
  · rename_i c' hc
    split at ht
    · split at ht
      · simp only [Option.some.injEq, Prod.mk.injEq] at ht
        rw [hc, ht.1]
      · cases ht
    · cases ht
  · cases ht
theorem tab_ex {K : PySem.W.Frag} (h : (PySem.W.tabIn K "next_pace").isSome = true) : ∃ c P, PySem.W.tabIn K "next_pace" = some (c, P) := by
  cases e : PySem.W.tabIn K "next_pace" with
  | none => rw [e] at h; cases h
  | some cp => exact ⟨cp.1, cp.2, rfl⟩
theorem mem_tbs {K : PySem.W.Frag} {c P : Addr} (h : PySem.W.tabIn K "next_pace" = some (c, P)) : P ∈ tbs K := by
  unfold tbs; rw [h]; exact List.mem_singleton.mpr rfl
theorem tbs_mem {K : PySem.W.Frag} {P : Addr} (h : P ∈ tbs K) : ∃ c, PySem.W.tabIn K "next_pace" = some (c, P) := by
  unfold tbs at h
  cases e : PySem.W.tabIn K "next_pace" with
  | none => rw [e] at h; cases h
  | some cp =>
    rw [e] at h
    obtain ⟨c, Q⟩ := cp
    have : P = Q := List.mem_singleton.mp h
    exact ⟨c, by rw [this]⟩
/-- a def keeps what its body's reading tells -/
theorem fn_sound {P : Program} {w : World} {K : PySem.W.Frag} {mg : Str → Option Value} {base : Heap} {T : Tb} {G : Fns} {k : Nat} {x qual : Str} {st : Stmt} {f : Addr} {fd : FuncData} {N ps : List Str} {core : List CS} {sp : List D → DStore → QE → Prop}
    (F : L2.Fun K x qual st f fd) (Sc : FnScope N ps (L2.defScope st)) (tab : Tab P w K mg base k T G) (ok : okSs T N ⟨L2.defScope st, L2.defScope st⟩ core (L2.defBody st) = true)
    (hlen : ∀ ds S Q, sp ds S Q → ds.length = ps.length) (hb : ∀ ds S Q, sp ds S Q → wpSs G core (startD N.length ds) S { nx := fun _ S' => Q .non S', rt := Q })
    (hl : T.lam = true → qual = "next_pace" ∧ PySem.W.nsIn K mainGlobals "next_pace" = some (some (.ref f)) ∧ ∃ c P, PySem.W.tabIn K "next_pace" = some (c, P) ∧ LamX.TabB base mg c P) (hG : ∀ c ds S, ¬ G.xc c ds S) :
    FnG P w K mg base (k + 1) f fd ps (spOf K sp) := by
  refine fnG_of F Sc (fun vs H Q ⟨η, μ, S, ds, QD, r, rv, h, hq⟩ => by rw [← rv.length]; exact hlen _ _ _ h) fun cdv A outer s H vs Q hcdv hg hr h => ?_
  obtain ⟨η, μ, S, ds, QD, r, rv, h, hq⟩ := h
  have hx : Here T G k N (cxG P w K mg base N qual st f cdv A outer s H) ⟨L2.defScope st, L2.defScope st⟩ :=
    ⟨tab, rfl, Sc.nd, rfl, Sc.kind, rfl, hr, hg, PassesOwn.never, fun _ _ => rfl, fun hT => by
      obtain ⟨hq, hn, c, P, ht, TB⟩ := hl hT
      obtain ⟨oc, od, osl, fd', lk, hc⟩ := hcdv
      subst hq
      exact ⟨c, P, TB, hc.symm.trans (tab_code hn lk ht), rfl, mem_tbs ht⟩⟩
  refine ⟨_, sSs core _ hx (W := fun _ _ _ _ => False) ⟨takes_not, fun _ => hG, rfl, rfl, rfl⟩ ok, useS (re_start rv) r (hb ds S QD h) ⟨?_, ?_, fun _ _ _ _ _ _ _ _ z => z.elim, fun _ _ _ _ _ _ _ _ z => z.elim, fun _ _ _ _ _ _ _ _ _ _ _ _ _ _ _ z => (hG _ _ _ z).elim⟩⟩
  · exact fun ρ' S' σ' μ' H' g r' e q => hq _ _ ⟨.non, S', μ', g, r', .non, q⟩
  · exact fun d S' v μ' H' g r' rv' q => hq _ _ ⟨d, S', μ', g, r', rv', q⟩
noncomputable def Tb.rz (T : Tb) : Tb := ⟨T.fns, T.cls, T.gls, T.bis, T.lam, ⟨T.x.exs, T.x.fxs, true, T.x.isn⟩⟩
/-- a def that may raise keeps what its body's reading tells -/
theorem fnX_sound {P : Program} {w : World} {K : PySem.W.Frag} {mg : Str → Option Value} {base : Heap} {T : Tb} {G : Fns} {k : Nat} {x qual : Str} {st : Stmt} {f : Addr} {fd : FuncData} {N ps : List Str} {core : List CS} {sp : List D → DStore → QE → QX → Prop}
    (F : L2.Fun K x qual st f fd) (Sc : FnScope N ps (L2.defScope st)) (tab : Tab P w K mg base k T G) (ok : okSs T.rz N ⟨L2.defScope st, L2.defScope st⟩ core (L2.defBody st) = true)
    (hlen : ∀ ds S Q E, sp ds S Q E → ds.length = ps.length) (hb : ∀ ds S Q E, sp ds S Q E → wpSs { G with xc := E } core (startD N.length ds) S { nx := fun _ S' => Q .non S', rt := Q })
    (hl : T.lam = false) : FnX P w K mg base (k + 1) f fd ps (spxOf K sp) := by
  refine fnX_of F Sc (fun vs H Q E ⟨η, μ, S, ds, QD, qx, r, rv, h, hq, hX⟩ => by rw [← rv.length]; exact hlen _ _ _ _ h) fun cdv A outer s H vs Q E hcdv hg hr h => ?_
  obtain ⟨η, μ, S, ds, QD, qx, r, rv, h, hq, hX⟩ := h
  have tab' : Tab P w K mg base k T.rz { G with xc := qx } := ⟨tab.fn, tab.cls, tab.gl, tab.bi, tab.ex, tab.sub, tab.fx, tab.xa⟩
  have hx : Here T.rz { G with xc := qx } k N (cxX P w K mg base N qual st f cdv A outer s H E) ⟨L2.defScope st, L2.defScope st⟩ :=
    ⟨tab', rfl, Sc.nd, rfl, Sc.kind, rfl, hr, hg, passes_of rfl, fun _ _ => rfl, fun hT => absurd (hl.symm.trans hT) Bool.false_ne_true⟩
  have hs : HereS T.rz { G with xc := qx } (cxX P w K mg base N qual st f cdv A outer s H E) (fun cls d _ H => E cls d H) := ⟨takes_of rfl rfl rfl rfl, fun z => (nomatch z), rfl, rfl, rfl⟩
  refine ⟨_, sSs core _ hx hs ok, useS (re_start rv) r (hb ds S QD qx h) ⟨?_, ?_, fun _ _ _ _ _ _ _ _ z => z.elim, fun _ _ _ _ _ _ _ _ z => z.elim, ?_⟩⟩
  · exact fun ρ' S' σ' μ' H' g r' e q => hq _ _ ⟨.non, S', μ', g, r', .non, q⟩
  · exact fun d S' v μ' H' g r' rv' q => hq _ _ ⟨d, S', μ', g, r', rv', q⟩
  · exact fun σ' c ds S' vs μ2 H2 C d H3 g2 r2 rv2 n2 xr q => hX c ds S' vs μ2 H2 C d H3 g2 r2 rv2 n2 xr q
theorem Tab.none {P : Program} {w : World} {K : PySem.W.Frag} {mg : Str → Option Value} {base : Heap} {cls : List CIn} {gls bis : List Str} {G : Fns}
    (gl : ∀ (j : Nat) (x : Str), gls[j]? = some x → ∃ u v, mg x = some u ∧ RelV v u ∧ (∀ H η μ, RV K H η μ (G.gl j) v) ∧ ∀ a, v = .ref a → ∃ o, K.lookup a = some o ∧ o.cls = .type "tuple" ∧ o.dict = none) (bi : ∀ x ∈ bis, mg x = none)
    (hc : ∀ c ∈ cls, ∃ C, PySem.W.nsIn K mainGlobals c.name = some (some (.ref C)) ∧ mg c.name = some (.ref C) ∧ Cls K C ∧ (∀ f ∈ c.attrs, NoAttr K C f) ∧ PySem.W.makesIn K C = true ∧ PySem.W.keepIn K (.ref C) = true ∧ isCB K C = true ∧ (c.ne = true → NeC K C)) {lam : Bool} : Tab P w K mg base 0 ⟨[], cls, gls, bis, lam, {}⟩ G :=
  ⟨fun j i h => by simp at h, hc, gl, bi, fun c h => by simp at h, fun c h => by simp at h, fun j i h => by simp at h, .inl rfl⟩
theorem Tab.add {P : Program} {w : World} {K : PySem.W.Frag} {mg : Str → Option Value} {base : Heap} {T : Tb} {G : Fns} {k : Nat} {i : FI} {f : Addr} {fd : FuncData} (tab : Tab P w K mg base k T G)
    (F : FnG P w K mg base (k + 1) f fd i.ps (spOf K (G.fn T.fns.length))) (hm : (i.cl = Option.none → mg i.name = some (.ref f)) ∧ ∀ cn, i.cl = some cn → ∃ C, PySem.W.nsIn K mainGlobals cn = some (some (.ref C)) ∧ Meth K C i.name f) (hk : PySem.W.keepIn K (.ref f) = true) (hb : i.ko = false → KBinds K fd i.ps [] (fun us _ => us) (fun vs _ => vs))
    (hkw : ∀ p ∈ i.kws, KBinds K fd i.ps p.1 (gK .none p.1.length p.2) (gK .non p.1.length p.2))
    {lam : Bool} : Tab P w K mg base (k + 1 + i.up) ⟨T.fns ++ [i], T.cls, T.gls, T.bis, lam, T.x⟩ G := by
  refine ⟨fun j i' h => ?_, tab.cls, tab.gl, tab.bi, fun c h => ⟨(tab.ex c h).1, by have := (tab.ex c h).2; omega⟩, tab.sub, fun j i' h => by
    obtain ⟨f, fd, ⟨F, hu⟩, r⟩ := tab.fx j i' h
    exact ⟨f, fd, ⟨F.mono (by omega), by omega⟩, r⟩, tab.xa⟩
  by_cases hj : j < T.fns.length
  · have h' : T.fns[j]? = some i' := by
      have := h
      simp only at this
      rwa [List.getElem?_append_left hj] at this
    obtain ⟨f, fd, ⟨F, hu⟩, r⟩ := tab.fn j i' h'
    exact ⟨f, fd, ⟨F.mono (by omega), by omega⟩, r⟩
  · have hj' : j = T.fns.length := by
      have := (List.getElem?_eq_some_iff.mp h).1
      simp at this
      omega
    subst hj'
    simp at h
    subst h
    exact ⟨f, fd, ⟨by rw [Nat.add_sub_cancel]; exact F, by omega⟩, hm, hk, hb, hkw⟩
theorem hm_fun {K : PySem.W.Frag} {mg : Str → Option Value} {i : FI} {f : Addr} (hc : i.cl = Option.none) (h : mg i.name = some (.ref f)) : (i.cl = Option.none → mg i.name = some (.ref f)) ∧ ∀ cn, i.cl = some cn → ∃ C, PySem.W.nsIn K mainGlobals cn = some (some (.ref C)) ∧ Meth K C i.name f :=
  ⟨fun _ => h, fun cn z => (nomatch (hc.symm.trans z))⟩
/-- how arguments come by their places, by names -/
theorem kb_pos {K : PySem.W.Frag} {fd : FuncData} {ps : List Str} (h : ∀ us : List Value, us.length = ps.length → bindArgs fd ⟨us, []⟩ = pure (ps.zip us)) : KBinds K fd ps [] (fun us _ => us) (fun vs _ => vs) :=
  ⟨fun s us ws _ hl => .of_eq (h us hl), fun a _ => a⟩
theorem vals_getD {zs : List V} {ws : List Value} (r : Vals zs ws) (n : Nat) : RelV (zs.getD n .non) (ws.getD n .none) := by
  by_cases h : n < zs.length
  · obtain ⟨u, e, ru⟩ := r.get (List.getElem?_eq_getElem h)
    rw [List.getD_eq_getElem?_getD, List.getD_eq_getElem?_getD, List.getElem?_eq_getElem h, e]
    exact ru
  · rw [List.getD_eq_getElem?_getD, List.getD_eq_getElem?_getD, List.getElem?_eq_none_iff.mpr (by omega), List.getElem?_eq_none_iff.mpr (by rw [← r.length]; omega)]
    rfl
theorem vals_perm {zs : List V} {ws : List Value} (r : Vals zs ws) : ∀ l : List Nat, Vals (l.map fun n => zs.getD n .non) (l.map fun n => ws.getD n .none)
  | [] => .nil
  | n :: l => .cons (vals_getD r n) (vals_perm r l)
theorem kb_kw {K : PySem.W.Frag} {fd : FuncData} {ps ks : List Str} {perm : List Nat} (hp : ps ≠ [])
    (h : ∀ us ws : List Value, ws.length = ks.length → us.length + perm.length = ps.length → bindArgs fd ⟨us, ks.zip ws⟩ = pure (ps.zip (us ++ perm.map fun n => ws.getD n .none))) : KBinds K fd ps ks (gK .none ks.length perm) (gK .non ks.length perm) := by
  refine ⟨fun s us ws _ hl => ?_, fun a b => ?_⟩
  · unfold gK at hl ⊢
    by_cases hw : ws.length = ks.length
    · rw [if_pos hw] at hl ⊢
      exact .of_eq (h us ws hw (by simpa using hl))
    · rw [if_neg hw] at hl
      exact absurd (List.eq_nil_of_length_eq_zero hl.symm) hp
  · unfold gK
    rw [b.length]
    split
    · exact a.append (vals_perm b perm)
    · exact .nil
/-- what a law's def promises -/
noncomputable def spLaw : List D → DStore → QE → Prop := fun ds S Q => ∃ ns : List Int, ds = [.scr (ns.map D.int)] ∧ ns.length ≤ 63 ∧ ∀ S', Q (.bl true) S'
theorem rvs_ints {K : PySem.W.Frag} {H : Hp} {η μ : List Addr} : ∀ ns : List Int, RVs K H η μ (ns.map D.int) (ns.map V.int)
  | [] => .nil
  | n :: ns => .cons (.int n) (rvs_ints ns)
theorem law_end {P : Program} {w : World} {K : PySem.W.Frag} {mg mb : Str → Option Value} {k : Nat} {fa a : Addr} {fd : FuncData} {x : Str} {s1 : Shared} {vs : List Value} {ns : List Int}
    (kin : K.In s1.heap) (gns : s1.heap.Ns mainGlobals mg) (bns : s1.heap.Ns builtinsNs mb) (bb : ∀ x : Str, x ≠ "__name__" → mb x = bootBuiltins x) (lim : s1.heap.NoLimit) (nog : s1.gens = #[])
    (hT : ∀ c P, PySem.W.tabIn K "next_pace" = some (c, P) → s1.heap.get? P = some { cls := .none, data := .fields #[] } ∧ K.lookup P = none ∧ PySem.W.CodeHd s1.heap c P)
    (hbm : ∃ (bm : Addr) (ob : Obj), mg "__builtins__" = some (.ref bm) ∧ bm ≠ builtinsNs ∧ s1.heap.get? bm = some ob ∧ ob.cls = .type "module" ∧ ob.dict = some builtinsNs ∧ ob.data = .plain)
    (obj : s1.heap.get? a = some { cls := .type "list", data := .seq vs.toArray }) (hi : IntsAre vs ns) (len : ns.length ≤ 63) (room : Room k callerA)
    (F : ∀ base : Heap, K.In base → base.Ns mainGlobals mg → LamB K base mg → FnG P w K mg base k fa fd [x] (spOf K spLaw)) (binds : ∀ (s : Shared) (u : Value), BindsTo s fd ⟨[u], []⟩ [(x, u)]) :
    codeAny (model P w) callerA (.call (.ref fa) ⟨[.ref a], []⟩) (fun r s' => r = .ok (.ret (.bool true)) ∧ OldK s1.heap s'.heap ∧ s'.os = s1.os ∧ AllBare s'.gens) s1 := by
  have hz : ns.length ≤ sizeLine := Nat.le_trans len (by decide)
  have rel := vals_ints hi
  have hlen := hi.length
  have isT : ∀ b ∈ tbs K, s1.heap.get? b = some { cls := .none, data := .fields #[] } ∧ K.lookup b = none := fun b hb => by
    obtain ⟨c, e⟩ := tbs_mem hb
    exact ⟨(hT c b e).1, (hT c b e).2.1⟩
  have aT : a ∉ tbs K := fun z => by
    have q := (isT a z).1
    rw [obj] at q
    have z' : Data.seq vs.toArray _ = Data.fields #[] := congrArg Obj.data (Option.some.inj q)
    cases z'
  let o : Obj := { cls := .type "list", data := .seq vs.toArray }
  -- whatever is tracked: the tables, and nothing or the script
  have go : ∀ H : Hp, (∀ b ∈ tbs K, H b = some (.tbl #[])) → (∀ b, b ≠ a → b ∉ tbs K → H b = none) → (H a = none ∨ (H a = some (.frz o (.lst (ns.map V.int))) ∧ K.lookup a = none)) → ((∃ o, H a = some (.frz o (.lst (ns.map V.int)))) ∨ ∀ H', SqL K H' a (ns.map V.int)) →
      codeAny (model P w) callerA (.call (.ref fa) ⟨[.ref a], []⟩) (fun r s' => r = .ok (.ret (.bool true)) ∧ OldK s1.heap s'.heap ∧ s'.os = s1.os ∧ AllBare s'.gens) s1 := by
    intro H Ht Hn Ha hscr
    have hok : HOk P w H s1.heap := by
      intro b u e
      by_cases hb : b = a
      · subst hb
        rcases Ha with z | ⟨z, _⟩
        · rw [z] at e; cases e
        · rw [z] at e; cases e
          exact ⟨obj, by simpa using hz, vs, _, rel, obj⟩
      · by_cases hb2 : b ∈ tbs K
        · rw [Ht b hb2] at e; cases e
          exact (isT b hb2).1
        · rw [Hn b hb hb2] at e; cases e
    have keep : ∀ {b : Addr} {u : Obj}, s1.heap.get? b = some u → H b = none → (hidT s1.heap H).get? b = some u := fun e hb => hidT_get e hb
    have noD : ∀ {b : Addr} {u : Obj}, s1.heap.get? b = some u → (∀ vs n, u.data ≠ .seq vs n) → u.data ≠ .fields #[] → H b = none := fun {b u} e h1 h2 => Hn b (fun z => by
      rw [z, obj] at e; cases e
      exact h1 _ _ rfl) fun z => by
      rw [(isT b z).1] at e; cases e
      exact h2 rfl
    have nsK : ∀ {b : Addr} {m : Str → Option Value}, s1.heap.Ns b m → (hidT s1.heap H).Ns b m := by
      rintro b m ⟨u, es, ep, e, d, r⟩
      refine ⟨u, es, ep, keep e (noD e (fun vs n z => ?_) fun z => ?_), d, r⟩
      · rw [d] at z; cases z
      · rw [d] at z; cases z
    have kinB : K.In (hidT s1.heap H) := fun b u e => keep (kin b u e) (by
      by_cases hb : b = a
      · subst hb
        rcases Ha with z | ⟨_, z⟩
        · exact z
        · rw [z] at e; cases e
      · exact Hn b hb fun z => by rw [(isT b z).2] at e; cases e)
    have md : Mod K mg (hidT s1.heap H) := ⟨kinB, nsK gns, ⟨mb, nsK bns, bb⟩, by obtain ⟨mc, h1, h2⟩ := lim; exact ⟨mc, nsK h1, h2⟩⟩
    have LB : LamB K (hidT s1.heap H) mg := fun c Q ht => by
      obtain ⟨hTp, _, C⟩ := hT c Q ht
      refine ⟨?_, ?_, fun z => ?_⟩
      · obtain ⟨ob, us, file, tf, flags, tg, inF, text, tt, e1, r1, r2, r3, r4, r5, r6, r7, r8, hne⟩ := C
        refine ⟨ob, us, file, tf, flags, tg, inF, text, tt, keep e1 (noD e1 (fun vs n z => ?_) fun z => ?_), r1, r2, r3, r4, r5, r6, r7, r8, hne⟩
        · rw [r2] at z; cases z
        · rw [r2] at z; cases z
          simp at r3
      · obtain ⟨bm, ob, b1, b2, b3, b4, b5, b6⟩ := hbm
        have nG : bm ≠ mainGlobals := fun q => by
          obtain ⟨o, es, ep, e, hd, _⟩ := gns
          rw [q, e] at b3; cases b3
          rw [hd] at b6; cases b6
        have nP : bm ≠ Q := fun q => by
          rw [q, hTp] at b3; cases b3
          cases b6
        refine ⟨bm, ob, b1, b2, nG, nP, keep b3 (noD b3 (fun vs n z => ?_) fun z => ?_), b4, b5, b6⟩
        · rw [b6] at z; cases z
        · rw [b6] at z; cases z
      · obtain ⟨o, es, ep, e, hd, _⟩ := gns
        rw [z, hTp] at e; cases e
        cases hd
    have e0 : Env0 P w K mg (hidT s1.heap H) callerA [] s1 H :=
      ⟨rfl, md, fun b u e => of_hidT e, Nat.le_of_eq (hidT_size _ _), trivial, fun b hb => (by cases hb), hok, .of_eq nog⟩
    have sp : spOf K spLaw [.ref a] H (fun v _ => v = .bl true) := by
      refine ⟨[], [], [], [.scr (ns.map D.int)], fun d _ => d = .bl true, ⟨rfl, List.nodup_nil, fun n c e => by simp at e, fun b hb => (by cases hb), fun Q hQ => ⟨(by simp), (by simp), #[], Ht Q hQ, True.intro, fun pos cv hc => by
        have z : codeAmong pos [] = some cv := hc
        simp [codeAmong] at z⟩⟩, .cons (.scr hscr (rvs_ints ns)) .nil, ⟨ns, rfl, len, fun _ => rfl⟩, ?_⟩
      rintro v H' ⟨d, S', μ', g, r, rv, rfl⟩
      cases rv
      rfl
    refine codeAny_mono ((F _ kinB (nsK gns) LB).run callerA [] s1 H ⟨[.ref a], []⟩ [.ref a] [.ref a] _ rfl room e0 (binds s1 (.ref a)) (.cons rfl .nil) sp) fun res s' out => ?_
    match res, out with
    | .error er, out => exact out.elim
    | .ok .next, out => exact out.elim
    | .ok .brk, out => exact out.elim
    | .ok .cont, out => exact out.elim
    | .ok (.ret u), ⟨v, H', os, bare, un, hok', rv, q⟩ =>
      obtain rfl : v = .bl true := q
      obtain rfl : u = Value.bool true := rv
      have key : ∀ b u, b ∉ tbs K → s1.heap.get? b = some u → s'.heap.get? b = some u := fun b u hb2 e => by
        by_cases hb : H b = none
        · exact un.keep b u e hb (fun z => by cases z) (fun z => by cases z)
        · have hba : b = a := Classical.byContradiction fun z => hb (Hn b z hb2)
          subst hba
          rcases Ha with z | ⟨z, _⟩
          · exact absurd z hb
          · obtain ⟨e1, _⟩ := hok' b _ (un.frzs b o _ z)
            rw [obj] at e; cases e
            exact e1
      have grown : ∀ b ∈ tbs K, ∃ more : Array Value, s'.heap.get? b = some { cls := .none, data := .fields more } := fun b hb => by
        obtain ⟨more, z⟩ := un.tbls b #[] (Ht b hb)
        exact ⟨_, hok' b _ z⟩
      refine ⟨rfl, ⟨fun b u e => ?_, fun b u e => ?_⟩, os, bare⟩
      · by_cases hb : b ∈ tbs K
        · obtain ⟨more, hm⟩ := grown b hb
          obtain ⟨c, ht⟩ := tbs_mem hb
          obtain ⟨h1, _, C⟩ := hT c b ht
          rw [h1] at e
          cases e
          exact .inr (.inl ⟨(C.tab h1).isCodeTable, rfl, #[], more, rfl, by rw [Array.empty_append]; exact hm⟩)
        · exact .inl (key b u hb e)
      · by_cases hb : b ∈ tbs K
        · obtain ⟨more, hm⟩ := grown b hb
          exact ⟨_, hm⟩
        · exact ⟨u, key b u hb e⟩
  cases hk : K.lookup a with
  | none => exact go (fun b => if b = a then some (.frz o (.lst (ns.map V.int))) else if b ∈ tbs K then some (.tbl #[]) else none) (fun b hb => by
      have : b ≠ a := fun z => aT (by rw [← z]; exact hb)
      simp only [if_neg this, if_pos hb]) (fun b hb hb2 => by simp only [if_neg hb, if_neg hb2]) (.inr ⟨if_pos rfl, hk⟩) (.inl ⟨o, if_pos rfl⟩)
  | some ob =>
    have e := kin a ob hk
    rw [obj] at e
    cases e
    refine go (fun b => if b ∈ tbs K then some (.tbl #[]) else none) (fun b hb => by simp only [if_pos hb]) (fun b _ hb => by simp only [if_neg hb]) (.inl (by simp only [if_neg aT])) (.inr fun H' => .inr ⟨_, vs.toArray, _, hk, rfl, rfl, rfl, ?_, by simpa using rel⟩)
    rw [List.size_toArray, hlen]; exact hz
/-- what is to be known of the table -/
noncomputable def TabKn (K : PySem.W.Frag) (h : Heap) : Prop := ∀ c P, PySem.W.tabIn K "next_pace" = some (c, P) → h.get? P = some { cls := .none, data := .fields #[] } ∧ K.lookup P = none ∧ PySem.W.CodeHd h c P
/-- the goal that the head leaves, from the law's promise -/
theorem walk_law {l : PySem.W.OpenLaw} {k : Nat} {q : Program} {loose : List Str} {XP : (Str → Option Value) → Heap → Prop} {YP : World → Heap → Prop} {d : DefRec} {K : Params → PySem.W.Frag} {x : Str}
    (hn : l.most = some 63) (hdf : d.params.defaults = []) (room : Room k callerA) (hY : ∀ (w : World) (h : Heap), YP w h → (K w.params).In h ∧ TabKn (K w.params) h)
    (F : ∀ (w : World) (mg : Str → Option Value) (fa : Addr) (h : Heap), (K w.params).In h → h.Ns mainGlobals mg → mg d.name = some (.ref fa) →
      ∃ fd : FuncData, (∀ (s : Shared) (u : Value), BindsTo s fd ⟨[u], []⟩ [(x, u)]) ∧ ∀ base : Heap, (K w.params).In base → base.Ns mainGlobals mg → LamB (K w.params) base mg → FnG l.prog w (K w.params) mg base k fa fd [x] (spOf (K w.params) spLaw)) :
    PySem.W.WalkO q loose XP YP l.row.toRowW d [] (fun f vs => PySem.call f vs) := by
  refine Att.attach_call hn hdf ?_
  intro w s0 s1 mg mb fa o pm cd doc a vs ns Gr Yp ho hd hcd hmg hobj hints hlen hg
  obtain ⟨fd, hb, hF⟩ := F w mg fa _ (hY w _ Yp).1 Gr.T.g hmg
  exact law_end (hY w _ Yp).1 Gr.T.g Gr.T.b Gr.T.builtins Gr.T.nolimit hg (hY w _ Yp).2 Gr.T.bmain hobj hints hlen room hF hb
/-- the table's facts from those that the head knows -/
noncomputable def tbChk (K : PySem.W.Frag) (ts : List Addr) : Bool := match PySem.W.tabIn K "next_pace" with
  | some (c, P) => ts.contains P && (K.lookup P).isNone && PySem.W.codeHdIn K c P
  | none => true
theorem tabKn_of {K : Params → PySem.W.Frag} {as : List Addr} {e : ∀ P, as = (K P).map (·.1)} {ts : List Addr} {w : World} {h : Heap} (Y : (PySem.W.kmHook K as e ts).says w h) (hc : tbChk (K w.params) ts = true) : (K w.params).In h ∧ TabKn (K w.params) h := by
  refine ⟨PySem.W.km_in_of Y, fun c P z => ?_⟩
  unfold tbChk at hc
  rw [z] at hc
  simp only [Bool.and_eq_true, Option.isNone_iff_eq_none] at hc
  exact ⟨PySem.W.km_tabs_of Y P (by simpa using hc.1.1), hc.1.2, PySem.W.codeHd_of_K (PySem.W.km_in_of Y) hc.2⟩
end DL
set_option maxHeartbeats 4000000
namespace DL
open PySem PySem.Spec PyProof.Rows L2
theorem PA.up {X : Cx} {es : List Expr} {ta : TA} (h : PA X es ta) : PA X es (fun σ H Q2 => ∃ Q1, ta σ H Q1 ∧ ∀ vs H1, Q1 vs H1 → Q2 vs H1) :=
  ⟨fun pos pins s σ H Q I ⟨Q1, q, imp⟩ => thn (h.run pos pins s σ H Q1 I q) fun us s1 ⟨vs, H1, I1, r1, q1⟩ => ⟨vs, H1, I1, r1, imp _ _ q1⟩⟩
/-- what the text says of the base -/
noncomputable def xbB (K : PySem.W.Frag) (B : Addr) : Bool := PySem.W.readsIn K B (.type "type") && (decide (PySem.W.specialIn K (.ref B) "__getattribute__" = some (some (.builtin "type.__getattribute__"))))
/-- which of the caught classes is which -/
noncomputable def subB (K : PySem.W.Frag) (l : List Str) : Bool := l.all fun c => xnm.all fun c' => match PySem.W.nsIn K mainGlobals c, PySem.W.nsIn K mainGlobals c' with
  | some (some (.ref C)), some (some (.ref C')) => decide (PySem.W.exmOne K (.ref C') (.ref C) = some (c' == c))
  | _, _ => true
theorem Tab.exc {P : Program} {w : World} {K : PySem.W.Frag} {mg : Str → Option Value} {base : Heap} {k : Nat} {fns : List FI} {cls : List CIn} {gls bis : List Str} {lam : Bool} {fxs : List FI} {G : Fns} (tab : Tab P w K mg base k ⟨fns, cls, gls, bis, lam, ⟨[], fxs, false, []⟩⟩ G) (l : List Str) (h4 : 4 ≤ k)
    (h : ∀ c ∈ l, ∃ C, XCls P w K mg base c C) (hs : subB K l = true) {lam' : Bool} {isn : List Str} (hx : isn = [] ∨ XAll K mg isn := by exact .inl rfl) : Tab P w K mg base k ⟨fns, cls, gls, bis, lam', ⟨l, fxs, false, isn⟩⟩ G := by
  refine ⟨tab.fn, tab.cls, tab.gl, tab.bi, fun c hc => ⟨h c hc, h4⟩, fun c hc c' hc' C C' e e' => ?_, tab.fx, hx⟩
  have q := List.all_eq_true.mp (List.all_eq_true.mp hs c hc) c' hc'
  rw [e, e'] at q
  exact of_decide_eq_true q
theorem Tab.addX {P : Program} {w : World} {K : PySem.W.Frag} {mg : Str → Option Value} {base : Heap} {T : Tb} {G : Fns} {k : Nat} {i : FI} {f : Addr} {fd : FuncData} (tab : Tab P w K mg base k T G)
    (F : FnX P w K mg base (k + 1) f fd i.ps (spxOf K (G.fx T.x.fxs.length))) (hm : (i.cl = Option.none → mg i.name = some (.ref f)) ∧ ∀ cn, i.cl = some cn → ∃ C, PySem.W.nsIn K mainGlobals cn = some (some (.ref C)) ∧ Meth K C i.name f) (hk : PySem.W.keepIn K (.ref f) = true) (hb : i.ko = false → KBinds K fd i.ps [] (fun us _ => us) (fun vs _ => vs))
    {lam : Bool} : Tab P w K mg base (k + 1 + i.up) ⟨T.fns, T.cls, T.gls, T.bis, lam, ⟨T.x.exs, T.x.fxs ++ [i], false, T.x.isn⟩⟩ G := by
  refine ⟨fun j i' h => by
    obtain ⟨f, fd, ⟨F, hu⟩, r⟩ := tab.fn j i' h
    exact ⟨f, fd, ⟨F.mono (by omega), by omega⟩, r⟩, tab.cls, tab.gl, tab.bi, fun c h => ⟨(tab.ex c h).1, by have := (tab.ex c h).2; omega⟩, tab.sub, fun j i' h => ?_, tab.xa⟩
  by_cases hj : j < T.x.fxs.length
  · have h' : T.x.fxs[j]? = some i' := by
      have := h
      simp only at this
      rwa [List.getElem?_append_left hj] at this
    obtain ⟨f, fd, ⟨F, hu⟩, r⟩ := tab.fx j i' h'
    exact ⟨f, fd, ⟨F.mono (by omega), by omega⟩, r⟩
  · have hj' : j = T.x.fxs.length := by
      have := (List.getElem?_eq_some_iff.mp h).1
      simp at this
      omega
    subst hj'
    simp at h
    subst h
    exact ⟨f, fd, ⟨by rw [Nat.add_sub_cancel]; exact F, by omega⟩, hm, hk, hb⟩
end DL
set_option maxHeartbeats 4000000
namespace DL
open PySem PySem.Spec PyProof.Rows L2
/-- what the text says of such a class: its base's family -/
structure Ox0 (K : PySem.W.Frag) (C : Addr) (newId : String) (bmB : List Value) : Prop where
  cls : ∃ nm q N bs bm sn sub ab col dd k0 k1 k2 k3 k5, K.lookup C = some (excClassObj nm q C N bs bm true sn sub ab col dd k0 k1 k2 k3 k5 newId) ∧ ∀ X : String, bm.contains (.type X) = bmB.contains (.type X)
  exC : PySem.W.subIn K (.ref C) (.type "BaseException") = some true
  tyC : PySem.W.typeIn K (.ref C) = some (.type "type")
  kC : PySem.W.keepIn K (.ref C) = true
section
variable {X : Cx} {pins : List (Addr × Obj)} {σ : L2.St} {H : Hp} {s : Shared} {a C : Addr} {E : Value → Shared → Prop} {A : Around} {B newId initId : String} {bmB : List Value}
theorem oinit0 {us : List Value} {Q : Value → Shared → Prop} (Fb : ExcBaseFacts B newId initId bmB) (T : Ox0 X.K C newId bmB) (I : Inv X pins σ H s) (e : H a = some (exo a C none)) (hl : us.length ≤ sizeLine) (h : ∀ s', Inv X pins σ H s' → Q .none s') :
    wpAny (model X.prog X.w) A (call (.builtin initId) (.ref a :: us)) Q E s := by
  obtain ⟨nm, q, N, bs, bm, sn, sub, ab, col, dd, k0, k1, k2, k3, k5, hC, hbm⟩ := T.cls
  obtain ⟨t1, ho⟩ := exo_at I.hok e
  obtain ⟨hp, g, d, t, os⟩ := s
  refine wpAny_call (PySem.HandSPX.init_base Fb hbm (I.kIn _ _ hC) ho hl fun h' t2 k hx => ?_)
  have J := I.write (t' := t) (x := a) (e := a) (o := exo a C none) (by rw [e]; exact True.intro) (.inl rfl) k ⟨_, hx⟩ (exo_ok hx)
  have eu : upd H a (exo a C none) = H := by
    funext b
    by_cases hb : b = a
    · rw [hb, upd_same, e]
    · rw [upd_ne hb]
  rw [eu] at J
  exact h _ J
theorem pe_base0 {b : Str} {D : Addr} {e : Expr} {es : List Expr} {ta : TA} {p1 p2 pos : Pos} {pl : Sem Bool} (Fb : ExcBaseFacts B newId initId bmB) (hh : PySem.W.handedIn (.builtin initId) = true) (hg : Gl X b) (hm : X.mg b = some (.ref D)) (rd : PySem.W.readsIn X.K D (.type "type") = true)
    (ga : PySem.W.specialIn X.K (.ref D) "__getattribute__" = some (some (.builtin "type.__getattribute__"))) (fc : PySem.W.findCls X.K (.ref D) (.type "type") "__init__" = some (.val (.builtin initId))) (hdb : (b == ("__debug__" : Str)) = false) (ha : PA X (e :: es) ta)
    (hc : eval (.Call (.Attribute (.Name b p1) "__init__" p2) (e :: es) [] pos) X.env = (do
      let ov ← eval (.Name b p1) X.env
      standAt p2.atName
      let (f, first) ← holding [ov] (getMethod ov "__init__" pl)
      callWith pos f first (backTo pos (starEach (e :: es) X.env)) (backToKw pos (keywordEach [] X.env))))
    (he : starEach (e :: es) X.env = (false, eval e X.env) :: starEach es X.env) (hpl : (backTo pos (starEach es X.env)).any (·.1) = false) :
    PE X (.Call (.Attribute (.Name b p1) "__init__" p2) (e :: es) [] pos) (fun σ H Q => ta σ H fun vs H1 => ∃ (a C : Addr) (ws : List V), vs = .ref a :: ws ∧ ws.length ≤ 1000 ∧ Ox0 X.K C newId bmB ∧ H1 a = some (exo a C none) ∧ Q .non H1) := by
  refine ⟨fun pins s σ H Q I h => ?_⟩
  refine PySem.W.methodCall_KW (ld_glob I hg hm ?_ hdb) hc
  refine PySem.W.method_cls I.kIn ga (PySem.W.cls_value I.kIn rd fc hh ?_)
  show wpAny _ _ (callWith pos (Value.builtin initId) [] (backTo pos (starEach (e :: es) X.env)) []) _ _ _
  refine PyProof.Rows.callWith_method1 (thn (ha.run pos pins _ σ H _ (I.tok _) h) fun us s1 ⟨vs, H1, I1, r1, a, C, ws, ev, hl, T, ea, q⟩ => ?_) he hpl
  subst ev
  cases r1 with
  | @cons _ u0 _ ur ra rw' =>
    obtain rfl : u0 = Value.ref a := ra
    have hlen : ur.length ≤ sizeLine := by
      rw [← Paired.length rw', sizeLine_eq]
      omega
    exact oinit0 Fb T I1 ea hlen fun s' J => ⟨.non, H1, J, rfl, q⟩
noncomputable def spX0 (C : Addr) : Sp := fun vs H Q _ => ∃ a, vs = [.ref a] ∧ H a = some (exo a C none) ∧ Q .non H
theorem x0_ok {P : Program} {w : World} {K : PySem.W.Frag} {mg : Str → Option Value} {base : Heap} {C D fI : Addr} {fd : FuncData} {b qual : Str} {st : Stmt} {x : Str} {o1 : Nat} {q1 q2 q3 q4 q5 q6 : Pos}
    (Fb : ExcBaseFacts B newId initId bmB) (hh : PySem.W.handedIn (.builtin initId) = true) (F : L2.Fun K "__init__" qual st fI fd) (Sc : FnScope ["self"] ["self"] (L2.defScope st))
    (hb : L2.defBody st = [.Expr (.Call (.Attribute (.Name b q1) "__init__" q2) [.Name "self" q3, .Constant (.str x) o1 q4] [] q5) q6])
    (T : Ox0 K C newId bmB) (mB : mg b = some (.ref D)) (bB : xbB K D = true) (fc : PySem.W.findCls K (.ref D) (.type "type") "__init__" = some (.val (.builtin initId)))
    (g1 : (L2.defScope st).names.lookup b = some .globalImplicit) (g2 : (L2.defScope st).names.lookup ("self" : Str) = some .local) (hd1 : (b == ("__debug__" : Str)) = false)
    (hform : ∀ env : Env, ∃ pl : Sem Bool, eval (.Call (.Attribute (.Name b q1) "__init__" q2) [.Name "self" q3, .Constant (.str x) o1 q4] [] q5) env = (do
      let ov ← eval (.Name b q1) env
      standAt q2.atName
      let (f, first) ← holding [ov] (getMethod ov "__init__" pl)
      callWith q5 f first (backTo q5 (starEach [.Name "self" q3, .Constant (.str x) o1 q4] env)) (backToKw q5 (keywordEach [] env)))) :
    FnOk P w K mg base L2.CX0 1 fI fd ["self"] (spX0 C) := by
  unfold xbB at bB
  simp only [Bool.and_eq_true, decide_eq_true_eq] at bB
  refine L2.Fun.ok F Sc (fun vs H Q E ⟨a, e, _⟩ => by rw [e]; rfl) fun cdv A outer s H vs Q E hr ⟨a, ev, ha, hq⟩ => ?_
  subst ev
  rw [hb]
  obtain ⟨pl, hf⟩ := hform (cxOf L2.CX0 P w K mg base ["self"] qual (L2.defScope st) fI cdv A outer s H E).nox.env
  have vS : PE (cxOf L2.CX0 P w K mg base ["self"] qual (L2.defScope st) fI cdv A outer s H E).nox (.Name "self" q3) _ := pe_var (i := 0) rfl (.inl g2) rfl rfl
  refine ⟨_, pss_one (ps_expr (pe_base0 (pl := pl) Fb hh g1 mB bB.1 bB.2 fc hd1 (pa_cons vS (pa_cons pe_str pa_nil rfl) rfl) hf rfl rfl)), ?_⟩
  show tVar 0 _ _ _
  refine ⟨.ref a, rfl, ?_⟩
  exact ⟨a, C, [_], rfl, by simp, T, ha, hq⟩
theorem mk_endN {H1 : Hp} {hp hp2 h2 : Heap} {g1 g2 : Array GenState} {d1 d2 : Drawn} {t1 t2 : Nat} {os1 os2 : OsState} {Q : XK} (T : Raises X (.ref C)) (I1 : Inv X pins σ H1 ⟨hp, g1, d1, t1, os1⟩)
    (ha : hp.objs.size ≤ a) (k : ∀ b o, hp.get? b = some o → hp2.get? b = some o) (un : Un (frs X.stack) [] (upd H1 a (exo a C none)) (upd H1 a (exo a C none)) hp2 h2) (hok : HOk X.prog X.w (upd H1 a (exo a C none)) h2) (ho : os2 = os1) (hb : AllBare g2)
    (q : Q (.ref C) none H1) : MkP X pins σ Q (.ref a) ⟨h2, g2, d2, t2, os2⟩ := by
  obtain ⟨t0, hoe⟩ := exo_at hok upd_same
  have hn : H1 a = none := I1.hok.fresh ha
  obtain ⟨G, g1', g2'⟩ := restrict h2 fun b => decide (b ≠ a)
  have gk : ∀ b, b ≠ a → G.get? b = h2.get? b := fun b hb => g1' b (decide_eq_true hb)
  have ge : G.get? a = none := g2' a (by simp)
  have nha : ∀ {b : Addr} {o : Obj}, hp.get? b = some o → b ≠ a := fun {b o} z => Nat.ne_of_lt (Nat.lt_of_lt_of_le (Heap.lt_size z) ha)
  have up : ∀ {b : Addr}, b ≠ a → H1 b = none → upd H1 a (exo a C none) b = none := fun {b} hb n => by rw [upd_ne hb]; exact n
  have U : Un (frs X.stack) [] H1 H1 hp G := {
    keep := fun b o z n hf hx => by
      rw [gk b (nha z)]
      exact un.keep b o (k b o z) (up (nha z) n) hf hx
    slot := fun b o z n hf hx => by
      rw [gk b (nha z)]
      exact un.slot b o (k b o z) (up (nha z) n) hf hx
    free := fun b o z n hx => n
    there := fun b o z hx => by
      rw [gk b (nha z)]
      exact un.there b o (k b o z) hx
    tups := fun b xs z => z
    frzs := fun b o v z => z
    tbls := fun b ps z => ⟨#[], by rw [z]; simp⟩ }
  have hok3 : HOk X.prog X.w H1 G := fun b o z => by
    have hba : b ≠ a := fun e => by
      rw [e, hn] at z
      cases z
    have noa : ∀ {c : Addr} {u : HO}, H1 c = some u → c ≠ a := fun {c u} hc e => by
      rw [e, hn] at hc
      cases hc
    have up2 : ∀ {c : Addr} {u : HO}, H1 c = some u → upd H1 a (exo a C none) c = some u := fun {c u} hc => by rw [upd_ne (noa hc)]; exact hc
    have dn : ∀ {c : Addr} {u : HO}, u ≠ exo a C none → upd H1 a (exo a C none) c = some u → H1 c = some u := fun {c u} hu hc => by
      by_cases e : c = a
      · rw [e, upd_same] at hc
        exact absurd (Option.some.inj hc).symm hu
      · rw [upd_ne e] at hc
        exact hc
    exact (hok b o (up2 z)).stay (fun c v hc y => by
        have hca : c ≠ a := by
          rcases hc with hc | hc
          · rw [hc]
            exact hba
          · exact noa (dn (fun z => exo_own z.symm) hc)
        rw [gk c hca]
        exact y)
      (fun c hc => dn (fun z => exo_own z.symm) hc) (fun c xs hc => dn (fun z => exo_tup z.symm) hc)
  have J : Inv X pins σ H1 ⟨G, g2, d2, t2, os2⟩ := I1.call' (ch := []) ho U hok3 hb (fun b z => absurd z (by simp))
  refine ⟨a, _, _, ⟨G, g2, d2, t2, os2⟩, _, .ref C, none, rfl, J, fun b o z => ?_, ge, hoe, ⟨rfl, rfl⟩, rfl, rfl, hn, rfl, hb, T, q⟩
  by_cases hba : b = a
  · rw [hba, ge] at z
    cases z
  · exact (gk b hba).symm.trans z
theorem pmk_ex0 {x : Str} {fI : Addr} {fd : FuncData} {p pos : Pos} (Fb : ExcBaseFacts B newId initId bmB) (T : Ox0 X.K C newId bmB) (iC : PySem.W.findIn X.K (.ref C) "__init__" = some (some (.ref fI))) (tI : PySem.W.typeIn X.K (.ref fI) = some (.type "function"))
    (F1 : FnOk X.prog X.w X.K X.mg X.base L2.CX0 1 fI fd ["self"] (spX0 C)) (hr : Room 2 X.A) (hb : Binds X.K fd ["self"] []) (hg : Gl X x) (hm : X.mg x = some (.ref C)) (hdb : (x == ("__debug__" : Str)) = false) :
    PMk X (.Call (.Name x p) [] [] pos) (fun _ H Q => Q (.ref C) none H) := by
  intro pins s σ H Q I h
  obtain ⟨nm, q, N, bs, bm, sn, sub, ab, col, dd, k0, k1, k2, k3, k5, hC, hbm⟩ := T.cls
  refine wpAny_Call_Name_kw (ld_glob I hg hm ?_ hdb)
  refine PySem.W.callWith_KW0 (h₀ := X.base) I.ok.mod.kin T.kC rfl (thn (pk_nil.run pos pins s σ H (fun zs H2 => zs = [] ∧ H2 = H) I ⟨rfl, rfl⟩) fun ws s1 out2 => ?_) rfl
  obtain ⟨zs, H2, I1, rel2, rfl, rfl⟩ := out2
  cases rel2
  refine ⟨I1.kIn, ?_⟩
  show wpAny _ _ (call (.ref C) []) _ _ _
  obtain ⟨hp, g, dr, tk, os⟩ := s1
  have hsz : hp.objs.size ≤ hp.objs.size + 1 := Nat.le_succ _
  have kk : ∀ b o, hp.get? b = some o → ((hp.push (PySem.W.kdv_tup [])).push (PySem.HandSPX.excO C hp.objs.size)).get? b = some o := fun b o e => Heap.get?_push_of_some _ (Heap.get?_push_of_some _ e)
  have hget : ((hp.push (PySem.W.kdv_tup [])).push (PySem.HandSPX.excO C hp.objs.size)).get? (hp.objs.size + 1) = some (PySem.HandSPX.excO C hp.objs.size) := by heap_get
  have I2 : Inv X pins σ (upd H2 (hp.objs.size + 1) (exo (hp.objs.size + 1) C none)) ⟨(hp.push (PySem.W.kdv_tup [])).push (PySem.HandSPX.excO C hp.objs.size), g, dr, tk, os⟩ :=
    I1.laid (t' := tk) (a := hp.objs.size + 1) (o := exo (hp.objs.size + 1) C none) (h' := (hp.push (PySem.W.kdv_tup [])).push (PySem.HandSPX.excO C hp.objs.size)) kk hsz (exo_ok hget)
  have r2 : Vals [V.ref (hp.objs.size + 1)] [Value.ref (hp.objs.size + 1)] := .cons rfl .nil
  refine wpAny_call (PySem.HandSPX.call_own Fb hbm (I1.kIn _ _ hC) (PySem.W.looks_findIn I1.kIn iC) (fun self => PySem.W.bind_fn I1.kIn self tI) (by simp)
    (codeAny_mono (F1.run _ X.stack _ _ ⟨Value.ref (hp.objs.size + 1) :: [], []⟩ [Value.ref (hp.objs.size + 1)] _ (fun v H3 => v = .non ∧ H3 = upd H2 (hp.objs.size + 1) (exo (hp.objs.size + 1) C none)) (fun _ _ _ => False) (hr.make C [] []) (I2.env0.make C [] []) (hb _ [Value.ref (hp.objs.size + 1)] I2.kIn rfl) r2 ⟨_, rfl, upd_same, rfl, rfl⟩) fun r s' hq' => ?_))
  cases r with
  | error er => exact hq'.elim
  | ok fl =>
    cases fl with
    | ret u =>
      obtain ⟨v, H3, os2, bare2, un2, hok2, rv, ev, eH⟩ := hq'
      subst ev; subst eH
      obtain ⟨h2, g2, d2, t2, os'⟩ := s'
      exact ⟨rv, mk_endN (raises_own T.exC T.tyC) I1 hsz kk un2 hok2 os2 bare2 h⟩
    | next => exact False.elim hq'
    | brk => exact False.elim hq'
    | cont => exact False.elim hq'
end
/-- what the text says of such a class -/
noncomputable def xzB (K : PySem.W.Frag) (C fI : Addr) : Bool :=
  decide (PySem.W.subIn K (.ref C) (.type "BaseException") = some true) && decide (PySem.W.typeIn K (.ref C) = some (.type "type")) && PySem.W.keepIn K (.ref C) && xfB K C && decide (PySem.W.typeIn K (.ref fI) = some (.type "function"))
/-- own classes, then LookupError's mro -/
noncomputable def refsLE : List Value → Bool
  | .ref _ :: r => refsLE r
  | l => l == [.type "LookupError", .type "Exception", .type "BaseException", .type "object"]
theorem refsLE_contains (X : String) : ∀ l : List Value, refsLE l = true → l.contains (.type X) = [Value.type "LookupError", .type "Exception", .type "BaseException", .type "object"].contains (.type X) := by
  intro l
  induction l with
  | nil => intro e; exact absurd e (by decide)
  | cons a r ih =>
    intro e
    cases a <;> first | (have e' := beq_iff_eq.mp (show (_ == _) = true from e); rw [e']; done) | skip
    have e2 : refsLE r = true := e
    rw [List.contains_cons, ih e2]
    rfl
/-- all of it, as the assembly asks: the family of LookupError -/
theorem exc0_of {P : Program} {w : World} {K : PySem.W.Frag} {mg : Str → Option Value} {base : Heap} {C D fI : Addr} {fd : FuncData} {c b qual : Str} {st : Stmt} {x : Str} {o1 : Nat} {q1 q2 q3 q4 q5 q6 : Pos}
    {nm q : Str} {N : Addr} {bs bm sub : List Value} {sn : List Str} {ab : Bool} {col : Option Bool} {dd : Option Addr} {k0 k1 k2 k3 k5 : Option Value}
    (hf : xfld c = []) (a : PySem.W.nsIn K mainGlobals c = some (some (.ref C))) (hm : mg c = some (.ref C)) (hl : K.lookup C = some (excClassObj nm q C N bs bm true sn sub ab col dd k0 k1 k2 k3 k5 "LookupError.__new__")) (hr : refsLE bm = true) (hx : xzB K C fI = true)
    (iC : PySem.W.findIn K (.ref C) "__init__" = some (some (.ref fI))) (F : L2.Fun K "__init__" qual st fI fd) (Sc : FnScope ["self"] ["self"] (L2.defScope st))
    (hb : L2.defBody st = [.Expr (.Call (.Attribute (.Name b q1) "__init__" q2) [.Name "self" q3, .Constant (.str x) o1 q4] [] q5) q6])
    (mB : mg b = some (.ref D)) (bB : xbB K D = true) (fc : PySem.W.findCls K (.ref D) (.type "type") "__init__" = some (.val (.builtin "LookupError.__init__")))
    (g1 : (L2.defScope st).names.lookup b = some .globalImplicit) (g2 : (L2.defScope st).names.lookup ("self" : Str) = some .local) (hd1 : (b == ("__debug__" : Str)) = false)
    (hform : ∀ env : Env, ∃ pl : Sem Bool, eval (.Call (.Attribute (.Name b q1) "__init__" q2) [.Name "self" q3, .Constant (.str x) o1 q4] [] q5) env = (do
      let ov ← eval (.Name b q1) env
      standAt q2.atName
      let (f, first) ← holding [ov] (getMethod ov "__init__" pl)
      callWith q5 f first (backTo q5 (starEach [.Name "self" q3, .Constant (.str x) o1 q4] env)) (backToKw q5 (keywordEach [] env))))
    (hbd : ∀ (kV doc pm : Value) (an : Option Addr) (cdv ct : Value) (us : List Value), us.length = 1 → bindArgs (PySem.W.fnOf "__init__" qual (L2.defArgs st) (L2.defBody st) (L2.defScope st) .none kV doc pm an cdv ct) ⟨us, []⟩ = pure (([("self" : Str)] : List Str).zip us)) : XCls P w K mg base c C := by
  unfold xzB at hx
  simp only [Bool.and_eq_true, decide_eq_true_eq] at hx
  obtain ⟨⟨⟨⟨x2, x3⟩, x4⟩, x5⟩, x7⟩ := hx
  have T : Ox0 K C "LookupError.__new__" [.type "LookupError", .type "Exception", .type "BaseException", .type "object"] := ⟨⟨_, _, _, _, _, _, _, _, _, _, _, _, _, _, _, hl, fun X => refsLE_contains X bm hr⟩, x2, x3, x4⟩
  have F1 := x0_ok (P := P) (w := w) (mg := mg) (base := base) PySem.F.excBase_LookupError rfl F Sc hb T mB bB fc g1 g2 hd1 hform
  have hB := L2.Fun.binds (ps := ["self"]) F hbd
  refine ⟨a, hm, xfB_ok x5, (fun f h => by rw [hf] at h; cases h), (fun z => absurd hf z), ?_⟩
  intro _ X hP hw hK hmg hbs hr hg hdb p pos
  subst hP; subst hw; subst hK; subst hmg; subst hbs
  exact pmk_ex0 PySem.F.excBase_LookupError T iC x7 F1 (hr.mono (by decide)) hB hg hm hdb
end DL
namespace DL
open PySem PySem.Spec PyProof.Rows L2
noncomputable def rng (lo hi : Int) : List Int := (List.range (hi - lo).toNat).map fun (k : Nat) => lo + k
theorem rangeD_eq (lo hi : Int) : rangeD lo hi = (rng lo hi).map D.int := by simp [rangeD, rng, List.map_map, Function.comp_def]
theorem rng_len (lo hi : Int) : (rng lo hi).length = (hi - lo).toNat := by simp [rng]
theorem mem_rng {lo hi x : Int} : x ∈ rng lo hi ↔ lo ≤ x ∧ x < hi := by
  simp only [rng, List.mem_map, List.mem_range]
  constructor
  · rintro ⟨k, hk, rfl⟩; omega
  · intro h; exact ⟨(x - lo).toNat, by omega, by omega⟩
theorem walk_range {lo hi : Int} {I : DStore → Prop} {ρ : DEnv} {S : DStore} {turn : D → DEnv → DStore → (DEnv → DStore → Prop) → Prop} {Q : DEnv → DStore → Prop} (Pv : Nat → DEnv → DStore → Prop) (h0 : Pv 0 ρ S) (hI : ∀ i ρ S, Pv i ρ S → I S)
    (hs : ∀ (i : Nat) ρ S, lo + i < hi → Pv i ρ S → turn (.int (lo + i)) ρ S (Pv (i + 1))) (hd : ∀ ρ S, Pv (hi - lo).toNat ρ S → Q ρ S) : wpWalk (rangeD lo hi) I ρ S turn Q := by
  refine ⟨Pv, h0, hI, fun i x ρ S h e => ?_, fun ρ S h => hd ρ S (by simpa [rangeD] using h)⟩
  have hi' : i < (hi - lo).toNat := by
    have := (List.getElem?_eq_some_iff.mp e).1
    simpa [rangeD] using this
  unfold rangeD at e
  rw [List.getElem?_map, List.getElem?_range hi'] at e
  cases e
  exact hs i ρ S (by omega) h
theorem walk_list {items : List D} {I : DStore → Prop} {ρ : DEnv} {S : DStore} {turn : D → DEnv → DStore → (DEnv → DStore → Prop) → Prop} {Q : DEnv → DStore → Prop} (Pv : Nat → DEnv → DStore → Prop) (h0 : Pv 0 ρ S) (hI : ∀ i ρ S, Pv i ρ S → I S)
    (hs : ∀ (i : Nat) (x : D) ρ S, items[i]? = some x → Pv i ρ S → turn x ρ S (Pv (i + 1))) (hd : ∀ ρ S, Pv items.length ρ S → Q ρ S) : wpWalk items I ρ S turn Q :=
  ⟨Pv, h0, hI, fun i x ρ S h e => hs i x ρ S e h, hd⟩
/-- a comprehension by an invariant -/
theorem gather_inv {items : List D} {I : DStore → Prop} {S : DStore} {turn : D → DStore → (Option D → DStore → Prop) → Prop} {Q : List D → DStore → Prop} (Pv : Nat → List D → DStore → Prop) (hl : items.length ≤ sizeLine) (h0 : Pv 0 [] S) (hI : ∀ i acc S, Pv i acc S → I S ∧ acc.length ≤ i)
    (hs : ∀ (i : Nat) x acc S, items[i]? = some x → Pv i acc S → ∀ N : Option D → DStore → Prop, (∀ y S', Pv (i + 1) (acc ++ [y]) S' → N (some y) S') → (∀ S', Pv (i + 1) acc S' → N none S') → turn x S N) (hQ : ∀ acc S, Pv items.length acc S → Q acc S) : wpGather items I S turn Q := by
  refine ⟨fun i acc S' => Pv i acc S' ∧ i ≤ items.length, ⟨h0, Nat.zero_le _⟩, fun i acc S' ⟨h, hi⟩ => ⟨(hI i acc S' h).1, (hI i acc S' h).2, hi⟩, hl, fun i x acc S' ⟨h, hi⟩ e => ?_, fun acc S' ⟨h, _⟩ => hQ acc S' h⟩
  have hlt := (List.getElem?_eq_some_iff.mp e).1
  exact hs i x acc S' e h _ (fun y S'' hP => ⟨hP, hlt⟩) fun S'' hP => ⟨hP, hlt⟩
theorem atI_nat' {α : Type} {xs : List α} {i : Int} {x : α} (h0 : 0 ≤ i) (h : xs[i.toNat]? = some x) : atI xs i = some x := by
  have hl := (List.getElem?_eq_some_iff.mp h).1
  unfold atI ixN
  rw [if_pos h0, if_pos (by omega)]
  exact h
theorem mapM_bl (bs : List Bool) : (bs.map D.bl).mapM blOf = some bs := by
  induction bs with
  | nil => rfl
  | cons b bs ih => simp [List.mapM_cons, blOf, ih]
theorem mul_small_left {i j : Int} (h1 : -(2 ^ 64) < i) (h2 : i < 2 ^ 64) : MulOk i j := .inl (.inl ⟨h1, h2⟩)
theorem mul_small_right {i j : Int} (h1 : -(2 ^ 64) < j) (h2 : j < 2 ^ 64) : MulOk i j := .inl (.inr ⟨h1, h2⟩)
theorem div_small {j : Int} (h0 : j ≠ 0) (h : j.natAbs < 2 ^ 9000) : DivOk j := ⟨h0, PySem.Flt.log2_lt_of (by decide) h⟩
theorem pow_ok {i j : Int} (h0 : 0 ≤ j) (h1 : j ≤ 1000000) (h2 : i.natAbs < 2 ^ 64) : PowOk i j := ⟨h0, bits_mul_le h2 h0 h1⟩
theorem log2_small {i : Int} (h : i.natAbs < 10 ^ 12) : i.natAbs.log2 < 1920 := by
  have h40 : i.natAbs < 2 ^ 40 := Nat.lt_of_lt_of_le h (by decide)
  have := PySem.Flt.log2_lt_of (by decide) h40
  omega
mutual
/-- all numbers small -/
noncomputable def okP : PyData → Bool
  | .none => true
  | .bool _ => true
  | .int i => decide (i.natAbs < 10 ^ 12)
  | .str x => decide ((reprText x).length ≤ 1000)
  | .list xs => okPs xs
  | .tuple xs => okPs xs
  | .dict _ => false
noncomputable def okPs : List PyData → Bool
  | [] => true
  | x :: xs => okP x && okPs xs
/-- how many signs at most -/
noncomputable def szP : PyData → Nat
  | .none => 8
  | .bool _ => 8
  | .int _ => 16
  | .str _ => 1000
  | .list xs => szPs xs + 8
  | .tuple xs => szPs xs + 8
  | .dict _ => 0
noncomputable def szPs : List PyData → Nat
  | [] => 0
  | x :: xs => szP x + 2 + szPs xs
end
mutual
theorem szP_ok : ∀ p : PyData, okP p = true → p.showable = true ∧ p.hasDict = false ∧ p.shown.length ≤ szP p
  | .none, h => ⟨rfl, rfl, by decide⟩
  | .bool b, h => ⟨rfl, rfl, by cases b <;> decide⟩
  | .int i, h => by
    simp only [okP, decide_eq_true_eq] at h
    exact ⟨by simp [PyData.showable, log2_small h], rfl, Nat.le_trans (PyData.shown_int_le h) (show 13 ≤ 16 by decide)⟩
  | .str x, h => by simp only [okP, decide_eq_true_eq] at h; exact ⟨rfl, rfl, h⟩
  | .list xs, h => by
    simp only [okP] at h
    obtain ⟨a, b, d⟩ := szPs_ok xs h
    refine ⟨a, b, ?_⟩
    have := listText_len_le (PyData.shownAll xs)
    show (listText (PyData.shownAll xs)).length ≤ szPs xs + 8
    omega
  | .tuple xs, h => by
    simp only [okP] at h
    obtain ⟨a, b, d⟩ := szPs_ok xs h
    refine ⟨a, b, ?_⟩
    have := tupleText_len_le (PyData.shownAll xs)
    show (tupleText (PyData.shownAll xs)).length ≤ szPs xs + 8
    omega
  | .dict _, h => by simp [okP] at h
theorem szPs_ok : ∀ xs : List PyData, okPs xs = true → PyData.showableAll xs = true ∧ PyData.hasDictAll xs = false ∧ ((PyData.shownAll xs).map (·.length)).sum + 2 * (PyData.shownAll xs).length ≤ szPs xs
  | [], h => ⟨rfl, rfl, by simp [PyData.shownAll]⟩
  | x :: xs, h => by
    simp only [okPs, Bool.and_eq_true] at h
    obtain ⟨a, b, d⟩ := szP_ok x h.1
    obtain ⟨a', b', d'⟩ := szPs_ok xs h.2
    refine ⟨by simp [PyData.showableAll, a, a'], by simp [PyData.hasDictAll, b, b'], ?_⟩
    simp only [PyData.shownAll, List.map_cons, List.sum_cons, List.length_cons, szPs]
    omega
end
theorem rep_ok2 {p : PyData} (h : okP p = true) (hs : szP p ≤ 16000000) (hd : p.depth ≤ 50) : RepOk p := by
  obtain ⟨a, b, d⟩ := szP_ok p h
  exact ⟨a, hd, b, Nat.le_trans d (Nat.le_trans hs (by decide))⟩
end DL
namespace DL
open PySem PySem.Spec PyProof.Rows L2
noncomputable def lcTurn (G : Fns) (elt : CE) (tg : CT) (ifs : List CB) (ρ : DEnv) : D → DStore → (Option D → DStore → Prop) → Prop := fun x S' N => wpG G tg x ρ S' fun ρ2 S2 => wpBs G ifs ρ2 S2 fun r S3 => if r = true then wpE G elt ρ2 S3 fun y S4 => N (some y) S4 else N none S3
noncomputable def forTurn (G : Fns) (t : CT) (b : List CS) (rt : QE) (nx : DEnv → DStore → Prop) : D → DEnv → DStore → (DEnv → DStore → Prop) → Prop := fun x ρ' S' N => wpG G t x ρ' S' fun ρ2 S2 => wpSs G b ρ2 S2 ⟨N, rt, nx, N⟩
section
variable {G : Fns} {a b c : CE} {r : Option D} {ρ : DEnv} {S : DStore} {Q : QE} {op op' : Operator} {i j : Nat} {K : DEnds}
theorem e_var : wpE G (.var i) (r :: ρ) S Q = ∃ d, (r :: ρ)[i]? = some (some d) ∧ Q d S := by simp only [wpE]
theorem e_con {k : CC} : wpE G (.con k) (r :: ρ) S Q = Q k.d S := by simp only [wpE]
theorem e_bin {m : Bool} : wpE G (.bin op m a b) (r :: ρ) S Q = wpE G a (r :: ρ) S fun x S1 => wpE G b (r :: ρ) S1 fun y S2 => binD op m x y S2 Q := by simp only [wpE]
theorem e_neg : wpE G (.neg a) (r :: ρ) S Q = wpE G a (r :: ρ) S fun x S1 => ∃ i, x = .int i ∧ Q (.int (-i)) S1 := by simp only [wpE]
theorem e_cmp {op : CmpOp} : wpE G (.cmp op a b) (r :: ρ) S Q = wpE G a (r :: ρ) S fun x S1 => wpE G b (r :: ρ) S1 fun y S2 => cmpD op S2 x y fun r => Q (.bl r) S2 := by simp only [wpE]
theorem e_ite {t : CB} : wpE G (.ite t a b) (r :: ρ) S Q = wpB G t (r :: ρ) S fun c S1 => if c = true then wpE G a (r :: ρ) S1 Q else wpE G b (r :: ρ) S1 Q := by simp only [wpE]
theorem e_tup {es : List CE} : wpE G (.tup es) (r :: ρ) S Q = wpEs G es (r :: ρ) S fun ds S1 => Q (.tup ds) S1 := by simp only [wpE]
theorem e_lst {m : Bool} {es : List CE} : wpE G (.lst m es) (r :: ρ) S Q = wpEs G es (r :: ρ) S fun ds S1 => newL m ds S1 Q := by simp only [wpE]
theorem e_ix : wpE G (.ix a b) (r :: ρ) S Q = wpE G a (r :: ρ) S fun x S1 => wpE G b (r :: ρ) S1 fun y S2 => ixD S2 x y fun d => Q d S2 := by simp only [wpE]
theorem e_call {es : List CE} : wpE G (.call j es) (r :: ρ) S Q = wpEs G es (r :: ρ) S fun ds S1 => G.fn j ds S1 Q := by simp only [wpE]
theorem e_callK {es kes : List CE} {perm : List Nat} : wpE G (.callK j es kes perm) (r :: ρ) S Q = wpEs G es (r :: ρ) S fun ds S1 => wpEs G kes (r :: ρ) S1 fun ks S2 => G.fn j (ds ++ perm.map fun i => ks.getD i .non) S2 Q := by simp only [wpE]
theorem e_bi {k : BI} {m : Bool} {es : List CE} : wpE G (.bi k m es) (r :: ρ) S Q = wpEs G es (r :: ρ) S fun ds S1 => biD k m ds S1 Q := by simp only [wpE]
theorem e_dnew : wpE G .dnew (r :: ρ) S Q = Q (.ref S.length) (S ++ [.dct []]) := by simp only [wpE]
theorem e_dnew1 {es : List CE} {v : CE} : wpE G (.dnew1 es v) (r :: ρ) S Q = wpEs G es (r :: ρ) (S ++ [.dct []]) fun ys S1 => wpE G v (r :: ρ) S1 fun z S2 => ∃ ks, keysOf ys = some ks ∧ S2[S.length]? = some (.dct []) ∧ Q (.ref S.length) (S2.set S.length (.dct [(ks, z)])) := by simp only [wpE]
theorem e_ktup {es : List CE} : wpE G (.ktup es) (r :: ρ) S Q = wpEs G es (r :: ρ) S fun ds S1 => ∃ ks, keysOf ds = some ks ∧ Q (.key ks) S1 := by simp only [wpE]
theorem e_lrg : wpE G (.lrg m a b) (r :: ρ) S Q = wpE G a (r :: ρ) S fun x S1 => wpE G b (r :: ρ) S1 fun y S2 => ∃ i j, x = .int i ∧ y = .int j ∧ Sm i ∧ Sm j ∧ (j - i).toNat ≤ 1000000 ∧ newL m (rangeD i j) S2 Q := by simp only [wpE]
theorem e_isiX {tp : Bool} {cns : List Str} : wpE G (.isiX tp cns a) (r :: ρ) S Q = wpE G a (r :: ρ) S fun x S1 => ∃ n c ds, x = .ref n ∧ S1[n]? = some (.exn c ds) ∧ Q (.bl (cns.any (isX c))) S1 := by simp only [wpE]
theorem e_ptup : wpE G (.ptup a) (r :: ρ) S Q = wpE G a (r :: ρ) S fun x S1 => ∃ xs, lstOf S1 x = some xs ∧ Q (.ptup xs) S1 := by simp only [wpE]
theorem e_dget2 {x : CE} {es : List CE} : wpE G (.dget2 a es x) (r :: ρ) S Q = wpE G a (r :: ρ) S fun d S1 => ∃ n, d = .ref n ∧ DAt S1 n ∧ wpEs G es (r :: ρ) S1 fun ys S2 => wpE G x (r :: ρ) S2 fun z S3 => ∃ kvs ks, dctOf S3 n = some kvs ∧ keysOf ys = some ks ∧ Q ((valD kvs ks).getD z) S3 := by simp only [wpE]
theorem e_dcS {key val : CE} {tg : CT} {it : CI} {ifs : List CB} {own : List Nat} : wpE G (.dcS key val tg it ifs own) (r :: ρ) S Q = wpI G it (r :: ρ) S fun items I S1 => wpGather items I S1
      (fun x S' N => wpG G tg x (wipeD (r :: ρ) own) S' fun ρ2 S2 => wpBs G ifs ρ2 S2 fun r S3 => if r = true then wpE G key ρ2 S3 fun y S4 => wpE G val ρ2 S4 fun z S5 => z = .bl true ∧ ∃ st, y = k3D st ∧ N (some y) S5 else N none S3)
      fun acc S' => ∀ ks : List K3, acc = ks.map k3D → Q (.ref S'.length) (S' ++ [.sts (ks.foldl put3D [])]) := by simp only [wpE]
theorem e_mk {cn : Str} {j : Nat} {es : List CE} : wpE G (.mk cn j es) (r :: ρ) S Q = wpEs G es (r :: ρ) S fun ds S1 => G.fn j (.ref S1.length :: ds) (S1 ++ [.ins cn []]) fun v S2 => v = .non ∧ Q (.ref S1.length) S2 := by simp only [wpE]
theorem e_sortA {m : Bool} : wpE G (.sortA m a) (r :: ρ) S Q = wpE G a (r :: ρ) S fun x S1 => ∃ ns : List Int, lstOf S1 x = some (ns.map D.int) ∧ newL m ((ns.mergeSort fun x y => decide (absI x ≤ absI y)).map D.int) S1 Q := by simp only [wpE]
theorem e_lc {m : Bool} {tg : CT} {it : CI} {ifs : List CB} {own : List Nat} : wpE G (.lc m a tg it ifs own) (r :: ρ) S Q = wpI G it (r :: ρ) S fun items I S1 => wpGather items I S1 (lcTurn G a tg ifs (wipeD (r :: ρ) own)) fun acc S' => newL m acc S' Q := by simp only [wpE]; rfl
theorem es_nil {Q : List D → DStore → Prop} : wpEs G [] (r :: ρ) S Q = Q [] S := by simp only [wpEs]
theorem es_cons {es : List CE} {Q : List D → DStore → Prop} : wpEs G (a :: es) (r :: ρ) S Q = wpE G a (r :: ρ) S fun d S1 => wpEs G es (r :: ρ) S1 fun ds S2 => Q (d :: ds) S2 := by simp only [wpEs]
theorem o_no {Q : Option Int → DStore → Prop} : wpO G .no (r :: ρ) S Q = Q none S := by simp only [wpO]
theorem o_yes {Q : Option Int → DStore → Prop} : wpO G (.yes a) (r :: ρ) S Q = wpE G a (r :: ρ) S fun x S1 => ∃ i, x = .int i ∧ Q (some i) S1 := by simp only [wpO]
section
variable {x y : CB} {Q : Bool → DStore → Prop}
theorem b_and : wpB G (.cand x y) (r :: ρ) S Q = wpB G x (r :: ρ) S fun c S1 => if c = true then wpB G y (r :: ρ) S1 Q else Q false S1 := by simp only [wpB]
theorem b_or : wpB G (.cor x y) (r :: ρ) S Q = wpB G x (r :: ρ) S fun c S1 => if c = true then Q true S1 else wpB G y (r :: ρ) S1 Q := by simp only [wpB]
theorem b_not : wpB G (.cnot x) (r :: ρ) S Q = wpB G x (r :: ρ) S fun c S1 => Q (!c) S1 := by simp only [wpB]
theorem b_cmp {op : CmpOp} : wpB G (.ccmp op a b) (r :: ρ) S Q = wpE G a (r :: ρ) S fun x S1 => wpE G b (r :: ρ) S1 fun y S2 => cmpD op S2 x y fun t => Q t S2 := by simp only [wpB]
theorem b_val : wpB G (.cval a) (r :: ρ) S Q = wpE G a (r :: ρ) S fun x S1 => truD S1 x fun t => Q t S1 := by simp only [wpB]
theorem bs_nil : wpBs G [] (r :: ρ) S Q = Q true S := by simp only [wpBs]
theorem bs_cons {bs : List CB} : wpBs G (x :: bs) (r :: ρ) S Q = wpB G x (r :: ρ) S fun t S1 => if t = true then wpBs G bs (r :: ρ) S1 Q else Q false S1 := by simp only [wpBs]
end
section
variable {d : D} {ts : List CT} {t : CT} {Q : DEnv → DStore → Prop}
theorem g_name : wpG G (.name i) d (r :: ρ) S Q = Q ((r :: ρ).set i (some d)) S := by simp only [wpG]
theorem g_tup : wpG G (.tup ts) d (r :: ρ) S Q = unpD S d fun xs => xs.length = ts.length ∧ wpGs G ts xs (r :: ρ) S Q := by simp only [wpG]
theorem u_tup {xs : List D} {k : List D → Prop} : unpD S (.tup xs) k = k xs := rfl
theorem u_lst {xs : List D} {k : List D → Prop} : unpD S (.lst xs) k = k xs := by simp [unpD, lstOf]
theorem g_sub : wpG G (.sub a b) d (r :: ρ) S Q = wpE G a (r :: ρ) S fun x S1 => wpE G b (r :: ρ) S1 fun y S2 => ∃ n xs k j, x = .ref n ∧ y = .int k ∧ S2[n]? = some (.lst xs) ∧ ixN xs.length k = some j ∧ Q (r :: ρ) (S2.set n (.lst (xs.set j d))) := by simp only [wpG]
theorem g_sput : wpG G (.sput a b) d (r :: ρ) S Q = wpE G a (r :: ρ) S fun x S1 => wpE G b (r :: ρ) S1 fun y S2 => ∃ n ks st, x = .ref n ∧ y = k3D st ∧ d = .bl true ∧ S2[n]? = some (.sts ks) ∧ ks.length < sizeLine ∧ Q (r :: ρ) (S2.set n (.sts (put3D ks st))) := by simp only [wpG]
theorem g_kput : wpG G (.kput a b) d (r :: ρ) S Q = wpE G a (r :: ρ) S fun x S1 => wpE G b (r :: ρ) S1 fun y S2 => ∃ n kvs k, x = .ref n ∧ S2[n]? = some (.dkk kvs) ∧ keyOf y = some k ∧ kvs.length < sizeLine ∧ Q (r :: ρ) (S2.set n (.dkk (putD kvs k d))) := by simp only [wpG]
theorem g_ksub : wpG G (.ksub a b) d (r :: ρ) S Q = wpE G a (r :: ρ) S fun x S1 => wpE G b (r :: ρ) S1 fun y S2 => ∃ n kvs ks, x = .ref n ∧ y = .key ks ∧ S2[n]? = some (.dct kvs) ∧ kvs.length < sizeLine ∧ Q (r :: ρ) (S2.set n (.dct (putD kvs ks d))) := by simp only [wpG]
theorem g_dsub {es : List CE} : wpG G (.dsub a es) d (r :: ρ) S Q = wpE G a (r :: ρ) S fun x S1 => wpEs G es (r :: ρ) S1 fun ys S2 => ∃ n kvs ks, x = .ref n ∧ S2[n]? = some (.dct kvs) ∧ keysOf ys = some ks ∧ kvs.length < sizeLine ∧ Q (r :: ρ) (S2.set n (.dct (putD kvs ks d))) := by simp only [wpG]
theorem gs_nil {ds : List D} : wpGs G [] ds (r :: ρ) S Q = Q (r :: ρ) S := by simp only [wpGs]
theorem gs_cons {ds : List D} : wpGs G (t :: ts) (d :: ds) (r :: ρ) S Q = wpG G t d (r :: ρ) S fun ρ1 S1 => wpGs G ts ds ρ1 S1 Q := by
  simp only [wpGs, List.cons.injEq]
  apply propext
  constructor
  · rintro ⟨_, _, ⟨rfl, rfl⟩, h⟩; exact h
  · intro h; exact ⟨_, _, ⟨rfl, rfl⟩, h⟩
end
section
variable {R : RI}
theorem i_keys : wpI G (.keys a) (r :: ρ) S R = wpE G a (r :: ρ) S fun x S1 => ∃ n kvs, x = .ref n ∧ S1[n]? = some (.dlk kvs) ∧ R (kvs.map fun p => D.tup (p.1.map keyD)) (fun _ => True) S1 := by simp only [wpI]
theorem i_items : wpI G (.items a) (r :: ρ) S R = wpE G a (r :: ρ) S fun x S1 => ∃ n kvs, x = .ref n ∧ S1[n]? = some (.dlk kvs) ∧ R (kvs.map fun p => D.tup [D.tup (p.1.map keyD), p.2]) (fun _ => True) S1 := by simp only [wpI]
theorem i_seq : wpI G (.seq a) (r :: ρ) S R = wpE G a (r :: ρ) S fun x S1 => itD S1 x R := by simp only [wpI]
theorem i_range1 : wpI G (.range1 a) (r :: ρ) S R = wpE G a (r :: ρ) S fun x S1 => ∃ j, x = .int j ∧ Sm j ∧ R (rangeD 0 j) (fun _ => True) S1 := by simp only [wpI]
theorem i_range3 : wpI G (.range3 a b c) (r :: ρ) S R = wpE G a (r :: ρ) S fun x S1 => wpE G b (r :: ρ) S1 fun y S2 => wpE G c (r :: ρ) S2 fun z S3 => ∃ i j k n, x = .int i ∧ y = .int j ∧ z = .int k ∧ RgC i j k n ∧ R (range3D i k n) (fun _ => True) S3 := by simp only [wpI]
theorem i_enum : wpI G (.enum a) (r :: ρ) S R = wpE G a (r :: ρ) S fun x S1 => enumP S1 x R := by simp only [wpI]
theorem i_range2 : wpI G (.range2 a b) (r :: ρ) S R = wpE G a (r :: ρ) S fun x S1 => wpE G b (r :: ρ) S1 fun y S2 => ∃ i j, x = .int i ∧ y = .int j ∧ Sm i ∧ Sm j ∧ R (rangeD i j) (fun _ => True) S2 := by simp only [wpI]
end
section
variable {e : CE} {t : CT} {ss s1 s2 : List CS} {s : CS} {k : Nat} {cb : CB} {it : CI} {nx : DEnv → DStore → Prop} {rt : QE} {bk ct : DEnv → DStore → Prop}
theorem s_nil : wpSs G [] (r :: ρ) S ⟨nx, rt, bk, ct⟩ = nx (r :: ρ) S := by simp only [wpSs]
theorem s_cons : wpSs G (s :: ss) (r :: ρ) S ⟨nx, rt, bk, ct⟩ = wpS G s (r :: ρ) S ⟨fun ρ1 S1 => wpSs G ss ρ1 S1 ⟨nx, rt, bk, ct⟩, rt, bk, ct⟩ := by simp only [wpSs]
theorem s_ret : wpS G (.ret e) (r :: ρ) S ⟨nx, rt, bk, ct⟩ = wpE G e (r :: ρ) S rt := by simp only [wpS]
theorem s_brk : wpS G .brk (r :: ρ) S ⟨nx, rt, bk, ct⟩ = bk (r :: ρ) S := by simp only [wpS]
theorem s_asg : wpS G (.asg t e) (r :: ρ) S ⟨nx, rt, bk, ct⟩ = wpE G e (r :: ρ) S fun d S1 => wpG G t d (r :: ρ) S1 nx := by simp only [wpS]
theorem s_par2 : wpS G (.par2 i j a b) (r :: ρ) S ⟨nx, rt, bk, ct⟩ = wpE G a (r :: ρ) S fun x S1 => wpE G b (r :: ρ) S1 fun y S2 => nx (((r :: ρ).set i (some x)).set j (some y)) S2 := by simp only [wpS]
theorem s_augA : wpS G (.aug i .Add e) (r :: ρ) S ⟨nx, rt, bk, ct⟩ = ∃ x, (r :: ρ)[i]? = some (some x) ∧ wpE G e (r :: ρ) S fun y S1 => i2 x y fun a b => nx ((r :: ρ).set i (some (.int (a + b)))) S1 := by simp only [wpS]
theorem s_augS : wpS G (.aug i .Sub e) (r :: ρ) S ⟨nx, rt, bk, ct⟩ = ∃ x, (r :: ρ)[i]? = some (some x) ∧ wpE G e (r :: ρ) S fun y S1 => i2 x y fun a b => nx ((r :: ρ).set i (some (.int (a - b)))) S1 := by simp only [wpS]
theorem s_append : wpS G (.append a e) (r :: ρ) S ⟨nx, rt, bk, ct⟩ = wpE G a (r :: ρ) S fun x S1 => ∃ n, x = .ref n ∧ LAt S1 n ∧ wpE G e (r :: ρ) S1 fun y S2 => ∃ xs, S2[n]? = some (.lst xs) ∧ xs.length < sizeLine ∧ nx (r :: ρ) (S2.set n (.lst (xs ++ [y]))) := by simp only [wpS]
theorem s_extend {a e : CE} : wpS G (.extend a e) (r :: ρ) S ⟨nx, rt, bk, ct⟩ = wpE G a (r :: ρ) S fun x S1 => ∃ n, x = .ref n ∧ LAt S1 n ∧ wpE G e (r :: ρ) S1 fun y S2 => ∃ xs zs, S2[n]? = some (.lst xs) ∧ lstOf S2 y = some zs ∧ xs.length + zs.length ≤ sizeLine ∧ nx (r :: ρ) (S2.set n (.lst (xs ++ zs))) := by rw [wpS]
theorem s_if : wpS G (.if_ cb s1 s2) (r :: ρ) S ⟨nx, rt, bk, ct⟩ = wpB G cb (r :: ρ) S fun t S1 => if t = true then wpSs G s1 (r :: ρ) S1 ⟨nx, rt, bk, ct⟩ else wpSs G s2 (r :: ρ) S1 ⟨nx, rt, bk, ct⟩ := by simp only [wpS]
theorem s_raise0 {c : Str} : wpS G (.raise0 c) (r :: ρ) S ⟨nx, rt, bk, ct⟩ = G.xc c [] S := by rw [wpS]
theorem s_tryC {jj : Option Nat} {q : XR} : wpS G (.tryC jj q k i) (r :: ρ) S ⟨nx, rt, bk, ct⟩ = wpR G q (r :: ρ) S (fun d S1 => nx (setO jj (r :: ρ) d) S1) (fun c ds S' => k < (r :: ρ).length ∧ nx ((((r :: ρ).set k none).set i (some (.ref S'.length))).set k none) (S' ++ [.exn c ds])) := by rw [wpS]
theorem r_fn {es : List CE} {QD : QE} {qx : QX} : wpR G (.fn j es) (r :: ρ) S QD qx = wpEs G es (r :: ρ) S fun ds S1 => G.fx j ds S1 QD qx := by rw [wpR]
theorem r_mk {cn : Str} {es : List CE} {QD : QE} {qx : QX} : wpR G (.mk cn j es) (r :: ρ) S QD qx = wpEs G es (r :: ρ) S fun ds S1 => G.fx j (.ref S1.length :: ds) (S1 ++ [.ins cn []]) (fun v S2 => v = .non ∧ QD (.ref S1.length) S2) qx := by rw [wpR]
theorem s_for : wpS G (.for_ t it s1) (r :: ρ) S ⟨nx, rt, bk, ct⟩ = wpI G it (r :: ρ) S fun items I S1 => wpWalk items I (r :: ρ) S1 (forTurn G t s1 rt nx) nx := by simp only [wpS]; rfl
end
end
section
variable {S : DStore} {Q : QE} {m : Bool} {x y : Int} {QB : Bool → Prop}
theorem o_add : binD .Add m (.int x) (.int y) S Q = Q (.int (x + y)) S := rfl
theorem o_addT {a b : List D} : binD .Add m (.tup a) (.tup b) S Q = (a.length + b.length ≤ sizeLine ∧ Q (.tup (a ++ b)) S) := rfl
theorem o_addL {a b : List D} : binD .Add m (.lst a) (.lst b) S Q = (a.length + b.length ≤ sizeLine ∧ newL m (a ++ b) S Q) := by
  simp [binD, addD, lstOf]
theorem o_sub : binD .Sub m (.int x) (.int y) S Q = Q (.int (x - y)) S := rfl
theorem o_mul : binD .Mult m (.int x) (.int y) S Q = (MulOk x y ∧ Q (.int (x * y)) S) := rfl
theorem o_mulL {a : List D} : binD .Mult m (.lst a) (.int y) S Q = (-(2 ^ 63) ≤ y ∧ y < 2 ^ 63 ∧ a.length * y.toNat ≤ sizeLine ∧ newL m (List.replicate y.toNat a).flatten S Q) := by
  simp [binD, mulD, lstOf]
theorem o_mulT {a : List D} : binD .Mult m (.tup a) (.int y) S Q = (a ≠ [] ∧ 0 ≤ y ∧ y ≤ 1000 ∧ a.length ≤ 1000 ∧ Q (.tup (List.replicate y.toNat a).flatten) S) := rfl
theorem o_fdiv : binD .FloorDiv m (.int x) (.int y) S Q = (DivOk y ∧ Q (.int (x.fdiv y)) S) := rfl
theorem o_mod : binD .Mod m (.int x) (.int y) S Q = (y ≠ 0 ∧ Q (.int (x.fmod y)) S) := rfl
theorem o_pow : binD .Pow m (.int x) (.int y) S Q = (PowOk x y ∧ Q (.int (x ^ y.toNat)) S) := rfl
theorem o_shl : binD .LShift m (.int x) (.int y) S Q = (CShl x y ∧ Q (.int (x * 2 ^ y.toNat)) S) := rfl
theorem o_shr : binD .RShift m (.int x) (.int y) S Q = (0 ≤ y ∧ Q (.int (x / 2 ^ y.toNat)) S) := rfl
theorem q_lt : cmpD .Lt S (.int x) (.int y) QB = QB (decide (x < y)) := rfl
theorem q_le : cmpD .LtE S (.int x) (.int y) QB = QB (decide (x ≤ y)) := rfl
theorem q_gt : cmpD .Gt S (.int x) (.int y) QB = QB (decide (y < x)) := rfl
theorem q_ge : cmpD .GtE S (.int x) (.int y) QB = QB (decide (y ≤ x)) := rfl
theorem q_eqI : cmpD .Eq S (.int x) (.int y) QB = QB (decide (x = y)) := rfl
theorem q_neI : cmpD .NotEq S (.int x) (.int y) QB = QB (!decide (x = y)) := rfl
theorem q_eqS {x y : Str} : cmpD .Eq S (.str x) (.str y) QB = QB (decide (x = y)) := rfl
theorem q_neS {x y : Str} : cmpD .NotEq S (.str x) (.str y) QB = QB (!decide (x = y)) := rfl
theorem q_eqB {x y : Bool} : cmpD .Eq S (.bl x) (.bl y) QB = QB (decide (x = y)) := rfl
theorem q_neB {x y : Bool} : cmpD .NotEq S (.bl x) (.bl y) QB = QB (!decide (x = y)) := rfl
theorem q_isN {d : D} : cmpD .Is S d .non QB = QB (isNon d) := rfl
theorem q_notN {d : D} : cmpD .IsNot S d .non QB = QB (!isNon d) := rfl
theorem q_isB {x y : Bool} : cmpD .Is S (.bl x) (.bl y) QB = QB (decide (x = y)) := by simp [cmpD, isD]
theorem q_notB {x y : Bool} : cmpD .IsNot S (.bl x) (.bl y) QB = QB (!decide (x = y)) := by simp [cmpD, isD]
theorem t_bl {b : Bool} : truD S (.bl b) QB = QB b := rfl
theorem t_int {i : Int} : truD S (.int i) QB = QB (i != 0) := rfl
theorem x_tup {xs : List D} {QD : D → Prop} : ixD S (.tup xs) (.int x) QD = ∃ v, atI xs x = some v ∧ QD v := by simp [ixD, seqOf]
theorem x_lst {xs : List D} {QD : D → Prop} : ixD S (.lst xs) (.int x) QD = ∃ v, atI xs x = some v ∧ QD v := by simp [ixD, seqOf, lstOf]
theorem x_scr {xs : List D} {QD : D → Prop} : ixD S (.scr xs) (.int x) QD = ∃ v, atI xs x = some v ∧ QD v := by simp [ixD, seqOf]
noncomputable def cellL : Option Cell → Option (List D)
  | some (.lst xs) => some xs
  | _ => none
theorem lstOf_ref {n : Nat} : lstOf S (.ref n) = cellL S[n]? := by
  simp only [lstOf]
  cases S[n]? with
  | none => rfl
  | some c => cases c <;> rfl
theorem x_ref {n : Nat} {QD : D → Prop} : ixD S (.ref n) (.int x) QD = ∃ xs, cellL S[n]? = some xs ∧ ∃ v, atI xs x = some v ∧ QD v := by simp [ixD, seqOf, lstOf_ref]
theorem x_key {n : Nat} {ks : List L2.Key} {QD : D → Prop} : ixD S (.ref n) (.key ks) QD = ∃ kvs v, dctOf S n = some kvs ∧ valD kvs ks = some v ∧ QD v := by
  unfold ixD
  simp only [D.ref.injEq, eq_iff_iff]
  constructor
  · rintro ⟨n', kvs, v, rfl, h⟩; exact ⟨kvs, v, h⟩
  · rintro ⟨kvs, v, h⟩; exact ⟨n, kvs, v, rfl, h⟩
theorem x_dct {n : Nat} {ys : List D} {QD : D → Prop} : ixD S (.ref n) (.tup ys) QD = ∃ kvs ks v, dctOf S n = some kvs ∧ keysOf ys = some ks ∧ valD kvs ks = some v ∧ QD v := by
  simp only [ixD]
  apply propext
  constructor
  · rintro ⟨n', kvs, ks, v, e, h⟩
    cases e; exact ⟨kvs, ks, v, h⟩
  · rintro ⟨kvs, ks, v, h⟩
    exact ⟨n, kvs, ks, v, rfl, h⟩
theorem c_some {xs : List D} : cellL (some (.lst xs)) = some xs := rfl
theorem n_f {ds : List D} : newL false ds S Q = Q (.lst ds) S := rfl
theorem n_t {ds : List D} : newL true ds S Q = Q (.ref S.length) (S ++ [.lst ds]) := rfl
theorem f_lenT {xs : List D} : biD .len m [.tup xs] S Q = Q (.int xs.length) S := by simp [biD, seqOf]
theorem f_lenL {xs : List D} : biD .len m [.lst xs] S Q = Q (.int xs.length) S := by simp [biD, seqOf, lstOf]
theorem f_lenC {xs : List D} : biD .len m [.scr xs] S Q = Q (.int xs.length) S := by simp [biD, seqOf]
theorem f_lenR {n : Nat} : biD .len m [.ref n] S Q = ∃ xs, cellL S[n]? = some xs ∧ Q (.int xs.length) S := by simp [biD, seqOf, lstOf_ref]
theorem f_abs : biD .abs m [.int x] S Q = Q (.int (if x < 0 then -x else x)) S := rfl
theorem f_min : biD .min2 m [.int x, .int y] S Q = Q (.int (if y < x then y else x)) S := rfl
theorem f_max : biD .max2 m [.int x, .int y] S Q = Q (.int (if y > x then y else x)) S := rfl
theorem f_min3 {z : Int} : biD .min3 m [.int x, .int y, .int z] S Q = Q (.int (if z < (if y < x then y else x) then z else if y < x then y else x)) S := rfl
theorem f_max3 {z : Int} : biD .max3 m [.int x, .int y, .int z] S Q = Q (.int (if z > (if y > x then y else x) then z else if y > x then y else x)) S := rfl
theorem l_lst {xs : List D} : lstOf S (.lst xs) = some xs := rfl
theorem f_intI : biD .int1 m [.int x] S Q = Q (.int x) S := rfl
theorem f_intB {b : Bool} : biD .int1 m [.bl b] S Q = Q (.int (if b then 1 else 0)) S := rfl
theorem f_tupT {xs : List D} : biD .tuple1 m [.tup xs] S Q = Q (.tup xs) S := rfl
theorem f_tupL {xs : List D} : biD .tuple1 m [.lst xs] S Q = Q (.tup xs) S := by simp [biD, lstOf]
theorem f_tupR {n : Nat} : biD .tuple1 m [.ref n] S Q = ∃ xs, cellL S[n]? = some xs ∧ Q (.tup xs) S := by simp [biD, lstOf_ref]
theorem f_lstT {xs : List D} : biD .list1 m [.tup xs] S Q = newL m xs S Q := by simp [biD, seqOf]
theorem f_lstL {xs : List D} : biD .list1 m [.lst xs] S Q = newL m xs S Q := by simp [biD, seqOf, lstOf]
theorem f_allB {bs : List Bool} : biD .all1 m [.lst (bs.map D.bl)] S Q = Q (.bl (bs.all id)) S := by
  apply propext
  constructor
  · rintro ⟨xs, cs, e1, e2, q⟩
    cases e1
    rw [mapM_bl] at e2
    cases e2
    exact q
  · intro q; exact ⟨_, _, rfl, mapM_bl bs, q⟩
theorem yN_int {ts : List TyB} {x : Int} : isiNP ts (.int x) S Q = Q (.bl (ts.any fun t => isiD t (.int x))) S := rfl
theorem yN_bl {ts : List TyB} {b : Bool} : isiNP ts (.bl b) S Q = Q (.bl (ts.any fun t => isiD t (.bl b))) S := rfl
theorem yN_str {ts : List TyB} {b : Str} : isiNP ts (.str b) S Q = Q (.bl (ts.any fun t => isiD t (.str b))) S := rfl
theorem yN_non {ts : List TyB}  : isiNP ts (.non) S Q = Q (.bl (ts.any fun t => isiD t (.non))) S := rfl
theorem yN_tup {ts : List TyB} {b : List D} : isiNP ts (.tup b) S Q = Q (.bl (ts.any fun t => isiD t (.tup b))) S := rfl
theorem yN_key {ts : List TyB} {ks : List L2.Key} : isiNP ts (.key ks) S Q = Q (.bl (ts.any fun t => isiD t (.key ks))) S := rfl
theorem yN_lst {ts : List TyB} {b : List D} : isiNP ts (.lst b) S Q = Q (.bl (ts.any fun t => isiD t (.lst b))) S := rfl
theorem y_int {t : TyB} : isiP t (.int x) S Q = Q (.bl (isiD t (.int x))) S := rfl
theorem y_bl {t : TyB} {b : Bool} : isiP t (.bl b) S Q = Q (.bl (isiD t (.bl b))) S := rfl
theorem y_str {t : TyB} {b : Str} : isiP t (.str b) S Q = Q (.bl (isiD t (.str b))) S := rfl
theorem y_non {t : TyB} : isiP t .non S Q = Q (.bl (isiD t .non)) S := rfl
theorem y_tup {t : TyB} {b : List D} : isiP t (.tup b) S Q = Q (.bl (isiD t (.tup b))) S := rfl
theorem y_key {t : TyB} {ks : List L2.Key} : isiP t (.key ks) S Q = Q (.bl (isiD t (.key ks))) S := rfl
theorem y_ref {t : TyB} {n : Nat} : isiP t (.ref n) S Q = ∃ c, S[n]? = some c ∧ match c with
    | .dlk _ => False
    | .dkl _ => False
    | .sts _ => False
    | .stl _ => False
    | .tks _ => False
    | .ins _ _ => False
    | .exn _ _ => False
    | c => Q (.bl (isiC t c)) S := rfl
theorem y_lst {t : TyB} {b : List D} : isiP t (.lst b) S Q = Q (.bl (isiD t (.lst b))) S := rfl
theorem z_tup {xs ys : List D} {R : RI} : zipP S (.tup xs) (.tup ys) R = R (zipD xs ys) (fun _ => True) S := rfl
theorem z_lst {xs ys : List D} {R : RI} : zipP S (.lst xs) (.lst ys) R = R (zipD xs ys) (fun _ => True) S := by simp [zipP, tlOf, lstOf]
theorem z_tl {xs ys : List D} {R : RI} : zipP S (.tup xs) (.lst ys) R = R (zipD xs ys) (fun _ => True) S := by simp [zipP, tlOf, lstOf]
theorem z_lt {xs ys : List D} {R : RI} : zipP S (.lst xs) (.tup ys) R = R (zipD xs ys) (fun _ => True) S := by simp [zipP, tlOf, lstOf]
theorem z_enumT {xs : List D} {R : RI} : enumP S (.tup xs) R = R (enumD xs) (fun _ => True) S := rfl
theorem z_enum {xs : List D} {R : RI} : enumP S (.lst xs) R = R (enumD xs) (fun _ => True) S := by simp [enumP, lstOf]
theorem t_tup {xs : List D} {R : RI} : itD S (.tup xs) R = R xs (fun _ => True) S := rfl
theorem t_ptup {xs : List D} {R : RI} : itD S (.ptup xs) R = R xs (fun _ => True) S := rfl
theorem t_lst {xs : List D} {R : RI} : itD S (.lst xs) R = R xs (fun _ => True) S := rfl
theorem a_0 {α : Type} {a : α} {l : List α} : atI (a :: l) 0 = some a := by simp [atI, ixN]
theorem a_1 {α : Type} {a b : α} {l : List α} : atI (a :: b :: l) 1 = some b := atI_nat' (by decide) rfl
theorem a_2 {α : Type} {a b c : α} {l : List α} : atI (a :: b :: c :: l) 2 = some c := atI_nat' (by decide) rfl
theorem a_3 {α : Type} {a b c d : α} {l : List α} : atI (a :: b :: c :: d :: l) 3 = some d := atI_nat' (by decide) rfl
theorem a_4 {α : Type} {a b c d e : α} {l : List α} : atI (a :: b :: c :: d :: e :: l) 4 = some e := atI_nat' (by decide) rfl
theorem a_5 {α : Type} {a b c d e f : α} {l : List α} : atI (a :: b :: c :: d :: e :: f :: l) 5 = some f := atI_nat' (by decide) rfl
theorem a_6 {α : Type} {a b c d e f g : α} {l : List α} : atI (a :: b :: c :: d :: e :: f :: g :: l) 6 = some g := atI_nat' (by decide) rfl
theorem ex_some {α : Type} {a : α} {P : α → Prop} : (∃ v, some a = some v ∧ P v) = P a := by simp
theorem ex_env {a : D} {P : D → Prop} : (∃ v, some (some a) = some (some v) ∧ P v) = P a := by simp
theorem ex_int {i : Int} {P : Int → Prop} : (∃ j, D.int i = D.int j ∧ P j) = P i := by simp
theorem ex_bl {i : Bool} {P : Bool → Prop} : (∃ j, D.bl i = D.bl j ∧ P j) = P i := by simp
theorem ex_ref {i : Nat} {P : Nat → Prop} : (∃ j, D.ref i = D.ref j ∧ P j) = P i := by simp
theorem ex_tup {xs : List D} {P : List D → Prop} : (∃ ys, D.tup xs = D.tup ys ∧ P ys) = P xs := by simp
theorem ex_int2 {i j : Int} {P : Int → Int → Prop} : (∃ a b, D.int i = D.int a ∧ D.int j = D.int b ∧ P a b) = P i j := by simp
theorem ex_sub {n : Nat} {x : Int} {A : Nat → List D → Prop} {B : List D → Int → Nat → Prop} {P : Nat → List D → Int → Nat → Prop} : (∃ n' xs k j, D.ref n = D.ref n' ∧ D.int x = D.int k ∧ A n' xs ∧ B xs k j ∧ P n' xs k j) = ∃ xs, A n xs ∧ ∃ j, B xs x j ∧ P n xs x j := by
  apply propext
  constructor
  · rintro ⟨_, xs, _, j, e1, e2, h1, h2, h3⟩
    cases e1; cases e2
    exact ⟨xs, h1, j, h2, h3⟩
  · rintro ⟨xs, h1, j, h2, h3⟩
    exact ⟨n, xs, x, j, rfl, rfl, h1, h2, h3⟩
theorem ex_cell {L : List D} {P : List D → Prop} : (∃ xs, some (Cell.lst L) = some (Cell.lst xs) ∧ P xs) = P L := by simp
theorem ix_30 : ixN 3 0 = some 0 := rfl
theorem ix_31 : ixN 3 1 = some 1 := rfl
theorem ix_32 : ixN 3 2 = some 2 := rfl
end
end DL
local macro_rules | `(tactic| simp_arith only [$xs,*]) => `(tactic| simp only [DL.e_var, DL.e_con, DL.e_bin, DL.e_neg, DL.e_cmp, DL.e_ite, DL.e_tup, DL.e_lst, DL.e_ix, DL.e_call, DL.e_callK, DL.e_bi, DL.e_dcS, DL.e_mk, DL.g_sput, DL.s_raise0, DL.s_tryC, DL.r_fn, DL.r_mk, DL.e_dnew, DL.e_dget2, DL.e_ktup, DL.e_lrg, DL.e_ptup, DL.e_isiX, DL.e_sortA, DL.e_lc, DL.es_nil, DL.es_cons, DL.o_no, DL.o_yes, DL.b_and, DL.b_or, DL.b_not, DL.b_cmp, DL.b_val, DL.bs_nil, DL.bs_cons, DL.g_name, DL.g_tup, DL.u_tup, DL.u_lst, DL.g_sub, DL.g_dsub, DL.g_ksub, DL.g_kput, DL.gs_nil, DL.gs_cons, DL.i_seq, DL.i_range1, DL.i_range2, DL.i_range3, DL.i_enum, DL.i_keys, DL.i_items, DL.s_nil, DL.s_cons, DL.s_ret, DL.s_brk, DL.s_asg, DL.s_par2, DL.s_augA, DL.s_augS, DL.s_append, DL.s_extend, DL.s_if, DL.s_for, DL.o_add, DL.o_addT, DL.o_addL, DL.o_sub, DL.o_mul, DL.o_mulL, DL.o_mulT, DL.o_fdiv, DL.o_mod, DL.o_pow, DL.o_shl, DL.o_shr, DL.q_lt, DL.q_le, DL.q_gt, DL.q_ge, DL.q_eqI, DL.q_neI, DL.q_eqS, DL.q_neS, DL.q_eqB, DL.q_neB, DL.q_isN, DL.q_notN, DL.q_isB, DL.q_notB, DL.t_bl, DL.t_int, DL.x_tup, DL.x_lst, DL.x_scr, DL.x_ref, DL.x_dct, DL.x_key, DL.c_some, DL.n_f, DL.n_t, DL.f_lenT, DL.f_lenL, DL.f_lenC, DL.f_lenR, DL.f_abs, DL.f_min, DL.f_max, DL.f_min3, DL.f_max3, DL.l_lst, DL.f_intI, DL.f_intB, DL.f_tupT, DL.f_tupL, DL.f_tupR, DL.f_lstT, DL.f_lstL, DL.yN_int, DL.yN_bl, DL.yN_str, DL.yN_non, DL.yN_tup, DL.yN_lst, DL.yN_key, DL.y_int, DL.y_bl, DL.y_str, DL.y_non, DL.y_tup, DL.y_lst, DL.y_key, DL.y_ref, DL.z_tup, DL.z_lst, DL.z_tl, DL.z_lt, DL.z_enum, DL.z_enumT, DL.isiD, DL.isiC, DL.t_tup, DL.t_ptup, DL.t_lst, DL.a_0, DL.a_1, DL.a_2, DL.a_3, DL.a_4, DL.a_5, DL.a_6, DL.ex_some, DL.ex_env, DL.ex_int, DL.ex_bl, DL.ex_ref, DL.ex_tup, DL.ex_int2, DL.ex_sub, DL.ex_cell, DL.ix_30, DL.ix_31, DL.ix_32, DL.CC.d, DL.startD, DL.wipeD, DL.i2, List.map_cons, List.map_nil, List.length_cons, List.length_nil, List.replicate, List.cons_append, List.nil_append, List.getElem?_cons_zero, List.getElem?_cons_succ, List.set_cons_zero, List.set_cons_succ, Nat.zero_add, Nat.reduceAdd, Nat.reduceSub, decide_eq_true_eq, Bool.not_eq_true', decide_eq_false_iff_not, if_true, Bool.false_eq_true, if_false, ite_true, ite_false, List.getD_cons_zero, List.getD_cons_succ, List.take_succ_cons, List.take_zero, List.drop_succ_cons, List.drop_zero, eq_self, not_true_eq_false, not_false_eq_true, Bool.true_eq_false, Bool.not_true, Bool.not_false, $xs,*])
namespace DL
open PySem PySem.Spec PyProof.Rows L2
noncomputable def takeC : List CS := [.if_ (.ccmp .Gt (.ix (.var 0) (.con (.int 0))) (.con (.int 0))) [.asg (.name 7) (.bin .Mod false (.ix (.var 0) (.con (.int 0))) (.var 1)),
    .asg (.sub (.var 0) (.con (.int 0))) (.bin .FloorDiv false (.ix (.var 0) (.con (.int 0))) (.var 1)),
    .ret (.var 7)] [],
  .asg (.name 2) (.bin .Add false (.ix (.var 0) (.con (.int 2))) (.con (.int 1))),
  .asg (.sub (.var 0) (.con (.int 2))) (.var 2),
  .asg (.name 3) (.bin .Add false (.ix (.var 0) (.con (.int 1))) (.bin .Mult false (.con (.int 15485867)) (.var 2))),
  .asg (.name 4) (.bin .Add false (.bin .Add false (.bin .Mod false (.ix (.var 0) (.con (.int 1))) (.con (.int 7907))) (.bin .Mult false (.con (.int 32452867)) (.var 2))) (.con (.int 19))),
  .asg (.name 5) (.bin .Mod false (.bin .Mult false (.var 3) (.var 4)) (.con (.int 2305843009213693951))),
  .asg (.name 6) (.bin .Add false (.bin .Add false (.bin .Mod false (.var 5) (.con (.int 1000003))) (.bin .Mult false (.con (.int 6700441)) (.var 2))) (.con (.int 7))),
  .ret (.bin .Mod false (.bin .FloorDiv false (.bin .Mod false (.bin .Mult false (.bin .Add false (.var 5) (.con (.int 11))) (.var 6)) (.con (.int 2305843009213693907))) (.con (.int 64))) (.var 1))]
noncomputable def potC (g m t : Int) : Cell := .lst [.int g, .int m, .int t]
structure POk (g m t : Int) : Prop where
  g0 : 0 ≤ g
  gb : g < 10 ^ 540
  m0 : 0 ≤ m
  mb : m < 2 ^ 61
  t0 : 0 ≤ t
  tb : t ≤ 1000000000
noncomputable def spTake (ds : List D) (S : DStore) (Q : QE) : Prop := ∃ n many g m t, ds = [.ref n, .int many] ∧ S[n]? = some (potC g m t) ∧ POk g m t ∧ t < 1000000000 ∧ 0 < many ∧ many < 2 ^ 60 ∧
  ∀ v g' t', 0 ≤ v → v < many → POk g' m t' → t ≤ t' → t' ≤ t + 1 → Q (.int v) (S.set n (potC g' m t'))
theorem spTake_len : ∀ ds S Q, spTake ds S Q → ds.length = 2 := by
  rintro ds S Q ⟨n, many, g, m, t, rfl, _⟩; rfl
theorem set_get {S : DStore} {n : Nat} {c d : Cell} (h : S[n]? = some c) : (S.set n d)[n]? = some d := by
  rw [List.getElem?_set_self (List.getElem?_eq_some_iff.mp h).1]
theorem if_i {c : Prop} [Decidable c] {A B : Prop} (h1 : c → A) (h2 : ¬ c → B) : if c then A else B := by split <;> simp_all
theorem fmod_pos {a b : Int} (h : 0 < b) : 0 ≤ a.fmod b ∧ a.fmod b < b := ⟨Int.fmod_nonneg_of_pos a h, Int.fmod_lt_of_pos a h⟩
theorem take_ok {G : Fns} : ∀ ds S Q, spTake ds S Q → wpSs G takeC (startD 8 ds) S { nx := fun _ S' => Q .non S', rt := Q } := by
  rintro ds S Q ⟨n, many, g, m, t, rfl, hS, ok, htb, hm0, hmb, hQ⟩
  have hS' : S[n]? = some (.lst [.int g, .int m, .int t]) := hS
  have hmk : ∀ c : Cell, (S.set n c)[n]? = some c := fun c => set_get hS
  unfold takeC
  simp_arith only [hS', hmk]
  have h64 : (2305843009213693951 : Int) < 2 ^ 64 := by decide
  have m0 := ok.m0
  have mb := ok.mb
  have t0 := ok.t0
  have g0 := ok.g0
  split
  · rename_i hg
    have hd := fmod_pos (a := g) hm0
    refine ⟨by omega, div_small (by omega) ?_, hQ _ _ t hd.1 hd.2 ⟨?_, ?_, m0, mb, t0, ok.tb⟩ (Int.le_refl _) (by omega)⟩
    · have : many.natAbs < 2 ^ 60 := by omega
      exact Nat.lt_of_lt_of_le this (Nat.pow_le_pow_right (by decide) (by decide))
    · rw [Int.fdiv_eq_ediv_of_nonneg _ (by omega)]; exact Int.ediv_nonneg g0 (by omega)
    · rw [Int.fdiv_eq_ediv_of_nonneg _ (by omega)]
      exact Int.lt_of_le_of_lt (Int.ediv_le_self _ g0) ok.gb
  · refine ⟨mul_small_left (by decide) (by decide), by decide, mul_small_left (by decide) (by decide), ?_⟩
    have hd := fmod_pos (a := m) (b := 7907) (by decide)
    refine ⟨mul_small_left (by omega) (by omega), by decide, by decide, mul_small_left (by decide) (by decide), ?_⟩
    generalize (m + 15485867 * (t + 1)) * (m.fmod 7907 + 32452867 * (t + 1) + 19) = A
    have hA := fmod_pos (a := A) (b := 2305843009213693951) (by decide)
    refine ⟨mul_small_left (by omega) (by omega), by decide, div_small (by decide) ?_, by omega, ?_⟩
    · exact Nat.lt_of_lt_of_le (show (64 : Int).natAbs < 2 ^ 7 by decide) (Nat.pow_le_pow_right (by decide) (by decide))
    · have hv := fmod_pos (a := (((A.fmod 2305843009213693951 + 11) * ((A.fmod 2305843009213693951).fmod 1000003 + 6700441 * (t + 1) + 7)).fmod 2305843009213693907).fdiv 64) hm0
      exact hQ _ g (t + 1) hv.1 hv.2 ⟨g0, ok.gb, m0, mb, by omega, by omega⟩ (by omega) (Int.le_refl _)
theorem repr4 {S : DStore} {m : Bool} {d : D} {p : PyData} {Q : QE} (e : purS S d = some p) (h : okP p = true) (q : Q (.str p.shown) S) (hs : (szP p).ble 16000000 = true := by rfl) (hd : p.depth.ble 50 = true := by rfl) : biD .repr1 m [d] S Q :=
  ⟨p, e, rep_ok2 h (Nat.le_of_ble_eq_true hs) (Nat.le_of_ble_eq_true hd), q⟩
noncomputable def handC : List CS := [.asg (.name 2) (.ite (.ccmp .Lt (.var 1) (.bi .len false [(.var 0)])) (.ix (.var 0) (.var 1)) (.con (.int 0))),
  .asg (.name 3) (.ite (.ccmp .GtE (.bi .abs false [(.var 2)]) (.bin .Pow false (.con (.int 10)) (.con (.int 18)))) (.bin .Mod false (.bi .abs false [(.var 2)]) (.bin .Mult false (.bin .Mult false (.bin .Pow false (.con (.int 10)) (.con (.int 60))) (.bin .Pow false (.con (.int 10)) (.con (.int 60)))) (.bin .Pow false (.con (.int 10)) (.con (.int 60))))) (.con (.int 0))),
  .ret (.lst true [(.var 3), (.bin .Mod false (.bin .Add false (.bin .Add false (.bin .Mult false (.bin .Mod false (.var 2) (.con (.int 2305843009213693951))) (.con (.int 1000033))) (.bin .Mult false (.con (.int 6857)) (.var 1))) (.con (.int 41))) (.con (.int 2305843009213693921))), (.con (.int 0))])]
noncomputable def spHand (ds : List D) (S : DStore) (Q : QE) : Prop := ∃ (ns : List Int) (k : Int), ds = [.scr (ns.map D.int), .int k] ∧ 0 ≤ k ∧ k ≤ 1000 ∧ ∀ g m, POk g m 0 → Q (.ref S.length) (S ++ [potC g m 0])
theorem spHand_len : ∀ ds S Q, spHand ds S Q → ds.length = 2 := by
  rintro ds S Q ⟨ns, k, rfl, _⟩; rfl
theorem hand_ok {G : Fns} : ∀ ds S Q, spHand ds S Q → wpSs G handC (startD 4 ds) S { nx := fun _ S' => Q .non S', rt := Q } := by
  rintro ds S Q ⟨ns, k, rfl, hk0, hk, hQ⟩
  unfold handC
  simp_arith only [List.length_map]
  have e60 : ((10 : Int) ^ (60 : Int).toNat) = 10 ^ 60 := rfl
  have p1 : PowOk 10 18 := pow_ok (by decide) (by decide) (by decide)
  have p2 : PowOk 10 60 := pow_ok (by decide) (by decide) (by decide)
  have m1 : MulOk ((10 : Int) ^ (60 : Int).toNat) ((10 : Int) ^ (60 : Int).toNat) := .inr (wide_mul (a := 200) (b := 200) (by decide) (by decide) (by decide) (by decide) (by decide))
  have m2 : MulOk ((10 : Int) ^ (60 : Int).toNat * (10 : Int) ^ (60 : Int).toNat) ((10 : Int) ^ (60 : Int).toNat) := .inr (wide_mul (a := 400) (b := 200) (by decide) (by decide) (by decide) (by decide) (by decide))
  have n1 : ((10 : Int) ^ (60 : Int).toNat * (10 : Int) ^ (60 : Int).toNat * (10 : Int) ^ (60 : Int).toNat) ≠ 0 := by decide
  have b1 : ((10 : Int) ^ (60 : Int).toNat * (10 : Int) ^ (60 : Int).toNat * (10 : Int) ^ (60 : Int).toNat) = 10 ^ 180 := by decide
  have fin : ∀ x y : Int, POk (x.fmod ((10 : Int) ^ (60 : Int).toNat * (10 : Int) ^ (60 : Int).toNat * (10 : Int) ^ (60 : Int).toNat)) (y.fmod 2305843009213693921) 0 := fun x y => by
    have h1 := fmod_pos (a := x) (b := 10 ^ 180) (by decide)
    have h2 := fmod_pos (a := y) (b := 2305843009213693921) (by decide)
    rw [b1]
    exact ⟨h1.1, Int.lt_trans h1.2 (by decide +kernel), h2.1, Int.lt_trans h2.2 (by decide), Int.le_refl _, by decide⟩
  have fin0 : ∀ y : Int, POk 0 (y.fmod 2305843009213693921) 0 := fun y => by
    have h2 := fmod_pos (a := y) (b := 2305843009213693921) (by decide)
    exact ⟨Int.le_refl _, by decide +kernel, h2.1, Int.lt_trans h2.2 (by decide), Int.le_refl _, by decide⟩
  refine if_i (fun hlt => ?_) fun _ => ?_
  · have hi : k.toNat < ns.length := by omega
    refine ⟨.int ns[k.toNat], atI_nat' hk0 (by rw [List.getElem?_map, List.getElem?_eq_getElem hi]; rfl), ?_⟩
    simp_arith only []
    refine ⟨p1, if_i (fun _ => ?_) fun _ => ?_⟩
    · exact ⟨p2, p2, m1, p2, m2, n1, by decide, mul_small_right (by decide) (by decide), mul_small_left (by decide) (by decide), by decide, hQ _ _ (fin _ _)⟩
    · exact ⟨by decide, mul_small_right (by decide) (by decide), mul_small_left (by decide) (by decide), by decide, hQ _ _ (fin0 _)⟩
  · refine ⟨p1, if_i (fun _ => ?_) fun _ => ?_⟩
    · exact ⟨p2, p2, m1, p2, m2, n1, by decide, mul_small_right (by decide) (by decide), mul_small_left (by decide) (by decide), by decide, hQ _ _ (fin _ _)⟩
    · exact ⟨by decide, mul_small_right (by decide) (by decide), mul_small_left (by decide) (by decide), by decide, hQ _ _ (fin0 _)⟩
end DL
namespace DL
open PySem PySem.Spec PyProof.Rows L2
theorem pow_lt_9000 {x : Nat} {k : Nat} (h : x < 2 ^ k) (hk : k ≤ 9000) : x < 2 ^ 9000 := Nat.lt_of_lt_of_le h (Nat.pow_le_pow_right (by decide) hk)
theorem bits_one : Builtin.Int.intBits 1 = 1 := by decide +kernel
theorem cpow1 {f : Int} (h0 : 0 ≤ f) (h1 : f ≤ 1000000) : CShl 1 f := ⟨h0, by rw [bits_one]; omega⟩
noncomputable def Pot (n : Nat) (T : Int) (S : DStore) : Prop := ∃ g m t, S[n]? = some (potC g m t) ∧ POk g m t ∧ t ≤ T
/-- all other things in the store stay -/
structure Fr (n : Nat) (S S' : DStore) : Prop where
  len : S.length ≤ S'.length
  keep : ∀ j, j ≠ n → j < S.length → S'[j]? = S[j]?
theorem Fr.refl {n : Nat} {S : DStore} : Fr n S S := ⟨Nat.le_refl _, fun _ _ _ => rfl⟩
theorem Fr.trans {n : Nat} {S S1 S2 : DStore} (a : Fr n S S1) (b : Fr n S1 S2) : Fr n S S2 :=
  ⟨Nat.le_trans a.len b.len, fun j h1 h2 => (b.keep j h1 (Nat.lt_of_lt_of_le h2 a.len)).trans (a.keep j h1 h2)⟩
theorem Fr.app {n : Nat} {S : DStore} {cs : List Cell} : Fr n S (S ++ cs) := ⟨by simp, fun j _ h => List.getElem?_append_left h⟩
theorem Fr.set {n i : Nat} {S S' : DStore} {c : Cell} (h : Fr n S S') (hi : S.length ≤ i) : Fr n S (S'.set i c) :=
  ⟨by simpa using h.len, fun j h1 h2 => by rw [List.getElem?_set_ne (by omega)]; exact h.keep j h1 h2⟩
theorem Fr.get {n i : Nat} {S S' : DStore} {c : Cell} (h : Fr n S S') (hi : i ≠ n) (e : S[i]? = some c) : S'[i]? = some c :=
  (h.keep i hi (List.getElem?_eq_some_iff.mp e).1).trans e
/-- all things stay -/
noncomputable def Kp (S S' : DStore) : Prop := ∀ (j : Nat) (c : Cell), S[j]? = some c → S'[j]? = some c
theorem Kp.len {S S' : DStore} (h : Kp S S') : S.length ≤ S'.length := by
  rcases Nat.lt_or_ge S'.length S.length with hl | hl
  · have := h S'.length S[S'.length] (List.getElem?_eq_getElem hl)
    have := (List.getElem?_eq_some_iff.mp this).1
    omega
  · exact hl
theorem Kp.fr {n : Nat} {S S' : DStore} (h : Kp S S') : Fr n S S' := ⟨h.len, fun j _ hj => by
  rw [List.getElem?_eq_getElem hj]; exact h j _ (List.getElem?_eq_getElem hj)⟩
theorem Pot.keep {n : Nat} {T : Int} {S S' : DStore} (h : Pot n T S) (k : Kp S S') : Pot n T S' := let ⟨g, m, t, a, b, c⟩ := h; ⟨g, m, t, k _ _ a, b, c⟩
theorem Pot.mono {n : Nat} {T T' : Int} {S : DStore} (h : Pot n T S) (hT : T ≤ T') : Pot n T' S := let ⟨g, m, t, a, b, c⟩ := h; ⟨g, m, t, a, b, Int.le_trans c hT⟩
theorem Pot.app {n : Nat} {T : Int} {S : DStore} {cs : List Cell} (h : Pot n T S) : Pot n T (S ++ cs) := let ⟨g, m, t, a, b, d⟩ := h; ⟨g, m, t, by rw [List.getElem?_append_left (List.getElem?_eq_some_iff.mp a).1]; exact a, b, d⟩
theorem Pot.set {n q : Nat} {T : Int} {S : DStore} {c : Cell} (h : Pot n T S) (hq : q ≠ n) : Pot n T (S.set q c) := let ⟨g, m, t, a, b, d⟩ := h; ⟨g, m, t, by rw [List.getElem?_set_ne hq]; exact a, b, d⟩
theorem takeP {n : Nat} {many T : Int} {S : DStore} {Q : QE} (hP : Pot n T S) (ht : T < 1000000000) (h0 : 0 < many) (hb : many < 2 ^ 60)
    (h : ∀ v S', 0 ≤ v → v < many → Pot n (T + 1) S' → Fr n S S' → S'.length = S.length → Q (.int v) S') : spTake [.ref n, .int many] S Q := by
  obtain ⟨g, m, t0, hS, ok, hl⟩ := hP
  exact ⟨n, many, g, m, t0, rfl, hS, ok, by omega, h0, hb, fun v g' t' a b c _ d => h v _ a b ⟨g', m, t', set_get hS, c, by omega⟩ ⟨by simp, fun j hj _ => List.getElem?_set_ne (fun z => hj z.symm)⟩ (by simp)⟩
theorem handP {ns : List Int} {k : Int} {S : DStore} {Q : QE} (h0 : 0 ≤ k) (h1 : k ≤ 1000) (h : ∀ n S', Pot n 0 S' → Fr n S S' → S'.length = n + 1 → Q (.ref n) S') : spHand [.scr (ns.map D.int), .int k] S Q :=
  ⟨ns, k, rfl, h0, h1, fun g m ok => h _ _ ⟨g, m, 0, by simp, ok, Int.le_refl _⟩ Fr.app (by simp)⟩
theorem len_le {n : Nat} (h : n ≤ 1000000) : n ≤ sizeLine := Nat.le_trans h (by decide)
theorem len_lt {n : Nat} (h : n < 1000000) : n < sizeLine := Nat.lt_of_lt_of_le h (by decide)
theorem div_om {j : Int} (h0 : j ≠ 0) (h1 : -4611686018427387904 < j) (h2 : j < 4611686018427387904) : DivOk j := div_small h0 (pow_lt_9000 (k := 62) (by omega) (by decide))
theorem fdiv_e {a b : Int} (h : 0 ≤ b) : a.fdiv b = a / b := Int.fdiv_eq_ediv_of_nonneg _ h
theorem ss_take {G : Fns} : ∀ (k : Nat) (l : List CS) (ρ : DEnv) (S : DStore) (K : DEnds), wpSs G l ρ S K = wpSs G (l.take k) ρ S { K with nx := fun ρ' S' => wpSs G (l.drop k) ρ' S' K }
  | 0, l, ρ, S, K => by simp only [List.take_zero, List.drop_zero, wpSs]
  | k + 1, [], ρ, S, K => by simp only [List.take_nil, List.drop_nil, wpSs]
  | k + 1, s :: l, ρ, S, K => by
    simp only [List.take_succ_cons, List.drop_succ_cons, wpSs]
    congr 2
    funext ρ' S'
    exact ss_take k l ρ' S' K
theorem ss_split {G : Fns} (k : Nat) {l : List CS} {ρ : DEnv} {S : DStore} {nx : DEnv → DStore → Prop} {rt : QE} {bk ct : DEnv → DStore → Prop} (P : DEnv → DStore → Prop)
    (h1 : ∀ N : DEnv → DStore → Prop, (∀ ρ' S', P ρ' S' → N ρ' S') → wpSs G (l.take k) ρ S ⟨N, rt, bk, ct⟩) (h2 : ∀ ρ' S', P ρ' S' → wpSs G (l.drop k) ρ' S' ⟨nx, rt, bk, ct⟩) : wpSs G l ρ S ⟨nx, rt, bk, ct⟩ := by
  rw [ss_take k]
  exact h1 _ h2
theorem Kp.trans {S S' S'' : DStore} (a : Kp S S') (b : Kp S' S'') : Kp S S'' := fun j c h => b j c (a j c h)
theorem kp_set {S S' : DStore} {n : Nat} {c : Cell} (h : Kp S S') (hn : S.length ≤ n) : Kp S (S'.set n c) := fun j d hj => by
  have := (List.getElem?_eq_some_iff.mp hj).1
  rw [List.getElem?_set_ne (by omega)]; exact h j d hj
theorem kp_app {S : DStore} {cs : List Cell} : Kp S (S ++ cs) := fun j c hj => by rw [List.getElem?_append_left (List.getElem?_eq_some_iff.mp hj).1]; exact hj
theorem s_nilA {G : Fns} {ρ : DEnv} {S : DStore} {K : DEnds} : wpSs G [] ρ S K = K.nx ρ S := by simp only [wpSs]
section
variable {κ : Type} [DecidableEq κ]
theorem valD_nil (k : κ) : valD [] k = none := rfl
theorem valD_mem {kvs : List (κ × D)} {k : κ} {d : D} (h : valD kvs k = some d) : (k, d) ∈ kvs := by
  unfold valD at h
  obtain ⟨p, h1, h2⟩ := Option.map_eq_some_iff.mp h
  have h3 := List.find?_some h1
  have h4 := List.mem_of_find?_eq_some h1
  have : p = (k, d) := by
    cases p; simp only [decide_eq_true_eq] at h3; simp only at h2; rw [h3, h2]
  rw [← this]; exact h4
theorem valD_cons {p : κ × D} {kvs : List (κ × D)} {k : κ} : valD (p :: kvs) k = if p.1 = k then some p.2 else valD kvs k := by
  unfold valD
  rw [List.find?_cons]
  by_cases h : p.1 = k
  · simp [h]
  · simp [h]
theorem any_val {kvs : List (κ × D)} {k : κ} : (kvs.any fun kv => decide (kv.1 = k)) = (valD kvs k).isSome := by
  induction kvs with
  | nil => rfl
  | cons p r ih =>
    rw [List.any_cons, valD_cons, ih]
    by_cases h : p.1 = k <;> simp [h]
theorem valD_put {kvs : List (κ × D)} {k j : κ} {d : D} : valD (putD kvs k d) j = if j = k then some d else valD kvs j := by
  unfold putD
  rw [any_val]
  split
  · rename_i hs
    induction kvs with
    | nil => simp [valD_nil] at hs
    | cons p r ih =>
      rw [List.map_cons, valD_cons]
      by_cases h : p.1 = k
      · simp only [h, if_true]
        by_cases hj : j = k
        · subst hj; simp
        · rw [if_neg (fun z => hj z.symm), if_neg hj, valD_cons, h, if_neg (fun z => hj z.symm)]
          clear ih hs
          induction r with
          | nil => rfl
          | cons p' r ih =>
            rw [List.map_cons, valD_cons, valD_cons, ih]
            by_cases h' : p'.1 = k
            · simp only [h', if_true]; rw [if_neg (fun z => hj z.symm), if_neg (fun z => hj z.symm)]
            · simp only [h', if_false]
      · rw [valD_cons, if_neg h] at hs
        simp only [h, if_false]
        rw [ih hs, valD_cons]
        by_cases hj : j = k
        · subst hj; rw [if_neg h]; simp
        · simp [hj]
  · rename_i hs
    have hn : valD kvs k = none := by simpa using hs
    clear hs
    induction kvs with
    | nil =>
      simp only [List.nil_append, valD_cons, valD_nil]
      by_cases hj : j = k
      · subst hj; simp
      · rw [if_neg (fun z => hj z.symm), if_neg hj]
    | cons p r ih =>
      rw [valD_cons] at hn
      by_cases h : p.1 = k
      · rw [if_pos h] at hn; cases hn
      · rw [if_neg h] at hn
        rw [List.cons_append, valD_cons, ih hn, valD_cons]
        by_cases hj : j = k
        · subst hj; rw [if_neg h]; simp
        · simp [hj]
theorem mem_put {kvs : List (κ × D)} {k : κ} {d : D} {p : κ × D} (h : p ∈ putD kvs k d) : p = (k, d) ∨ p ∈ kvs := by
  unfold putD at h
  split at h
  · obtain ⟨q, h1, h2⟩ := List.mem_map.mp h
    split at h2
    · rename_i e; exact .inl (by rw [← h2, e])
    · exact .inr (h2 ▸ h1)
  · rcases List.mem_append.mp h with h | h
    · exact .inr h
    · exact .inl (by simpa using h)
theorem len_put {kvs : List (κ × D)} {k : κ} {d : D} : (putD kvs k d).length ≤ kvs.length + 1 := by
  unfold putD
  split <;> simp
end
end DL
namespace DL
open PySem PySem.Spec PyProof.Rows L2
noncomputable def sumN (f : Nat → Int) : Nat → Int
  | 0 => 0
  | n + 1 => sumN f n + f n
theorem sumN_congr {f g : Nat → Int} : ∀ n, (∀ i, i < n → f i = g i) → sumN f n = sumN g n
  | 0, _ => rfl
  | n + 1, h => by simp only [sumN]; rw [sumN_congr n fun i hi => h i (by omega), h n (by omega)]
theorem sumN_le {f g : Nat → Int} : ∀ n, (∀ i, i < n → f i ≤ g i) → sumN f n ≤ sumN g n
  | 0, _ => Int.le_refl _
  | n + 1, h => by
    have := sumN_le n fun i hi => h i (by omega)
    have := h n (by omega)
    simp only [sumN]; omega
theorem sumN_neg {f : Nat → Int} : ∀ n, sumN (fun i => -f i) n = -sumN f n
  | 0 => rfl
  | n + 1 => by simp only [sumN]; rw [sumN_neg n]; omega
theorem sumN_shift (f : Nat → Int) : ∀ n, sumN f (n + 1) = f 0 + sumN (fun i => f (i + 1)) n
  | 0 => by simp only [sumN]; omega
  | n + 1 => by
    have := sumN_shift f n
    simp only [sumN] at this ⊢
    rw [this]; omega
theorem sumN_add (f : Nat → Int) (a : Nat) : ∀ b, sumN f (a + b) = sumN f a + sumN (fun i => f (a + i)) b
  | 0 => by simp [sumN]
  | b + 1 => by
    have := sumN_add f a b
    rw [← Nat.add_assoc]
    simp only [sumN]; rw [this]; omega
theorem sumN_rev (f : Nat → Int) : ∀ n, sumN (fun i => f (n - 1 - i)) n = sumN f n
  | 0 => rfl
  | n + 1 => by
    have ih := sumN_rev f n
    rw [sumN_shift]
    simp only [sumN]
    have e : sumN (fun i => f (n + 1 - 1 - (i + 1))) n = sumN (fun i => f (n - 1 - i)) n := sumN_congr n fun i hi => by rw [show n + 1 - 1 - (i + 1) = n - 1 - i by omega]
    rw [e, ih, show n + 1 - 1 - 0 = n by omega]; omega
/-- beats that are all alike -/
theorem sumN_const {f : Nat → Int} {c : Int} : ∀ n, (∀ i, i < n → f i = c) → sumN f n = (n : Int) * c
  | 0, _ => by simp [sumN]
  | n + 1, h => by
    simp only [sumN]; rw [sumN_const n fun i hi => h i (by omega), h n (by omega)]
    rw [show ((n + 1 : Nat) : Int) = (n : Int) + 1 from rfl, Int.add_mul]; omega
section
variable (h p : Int)
/-- the greatest pace at a beat, of ways of n beats -/
noncomputable def tpc (v z : Int) (n i : Nat) : Int := min h (min (v + ((i : Int) + 1) * p) (z + ((n : Int) - 1 - i) * p))
noncomputable def grt (v z : Int) (n : Nat) : Int := sumN (tpc h p v z n) n
/-- the least one -/
noncomputable def btc (l v z : Int) (n i : Nat) : Int := max l (max (v - ((i : Int) + 1) * p) (z - ((n : Int) - 1 - i) * p))
noncomputable def lea (l v z : Int) (n : Nat) : Int := sumN (btc p l v z n) n
end
section
variable {l h p : Int}
theorem lea_neg (v z : Int) (n : Nat) : lea p l v z n = -grt (-l) p (-v) (-z) n := by
  unfold lea grt
  rw [← sumN_neg]
  refine sumN_congr n fun i _ => ?_
  unfold btc tpc
  generalize ((i : Int) + 1) * p = A
  generalize ((n : Int) - 1 - i) * p = B
  omega
theorem ap_bp {n i : Nat} (hi : i < n) (hp : 1 ≤ p) : ∃ A B : Int, A = ((i : Int) + 1) * p ∧ B = ((n : Int) - 1 - i) * p ∧ A + B = (n : Int) * p ∧ p ≤ A ∧ 0 ≤ B := by
  refine ⟨_, _, rfl, rfl, ?_, ?_, ?_⟩
  · rw [← Int.add_mul]; congr 1; omega
  · have : (i : Int) * p + p = ((i : Int) + 1) * p := by rw [Int.add_mul, Int.one_mul]
    have : 0 ≤ (i : Int) * p := Int.mul_nonneg (by omega) (by omega)
    omega
  · exact Int.mul_nonneg (by omega) (by omega)
/-- the greatest first pace -/
noncomputable def wTop (h p v z : Int) (n : Nat) : Int := min h (min (v + p) (z + (n : Int) * p))
theorem grt_succ (hp : 1 ≤ p) (v z : Int) (n : Nat) : grt h p v z (n + 1) = wTop h p v z n + grt h p (wTop h p v z n) z n := by
  unfold grt
  rw [sumN_shift]
  congr 1
  · unfold tpc wTop
    rw [show ((0 : Nat) : Int) + 1 = 1 from rfl, Int.one_mul, show ((n + 1 : Nat) : Int) - 1 - ((0 : Nat) : Int) = (n : Int) by omega]
  · refine sumN_congr n fun i hi => ?_
    obtain ⟨A, B, eA, eB, eS, hA, hB⟩ := ap_bp (p := p) hi hp
    unfold tpc wTop
    rw [← eA, ← eB, show (((i + 1 : Nat) : Int) + 1) * p = A + p by rw [eA, show ((i + 1 : Nat) : Int) = (i : Int) + 1 from rfl, Int.add_mul ((i : Int) + 1), Int.one_mul], show ((n + 1 : Nat) : Int) - 1 - ((i + 1 : Nat) : Int) = (n : Int) - 1 - i by omega, ← eB, ← eS]
    omega
theorem lea_succ (hp : 1 ≤ p) (v z : Int) (n : Nat) : lea p l v z (n + 1) = max l (max (v - p) (z - (n : Int) * p)) + lea p l (max l (max (v - p) (z - (n : Int) * p))) z n := by
  have e : wTop (-l) p (-v) (-z) n = -max l (max (v - p) (z - (n : Int) * p)) := by
    unfold wTop
    generalize (n : Int) * p = B
    omega
  rw [lea_neg, grt_succ hp, e, lea_neg]
  omega
theorem grt_mono {w w' : Int} (hw : w ≤ w') (z : Int) (n : Nat) : grt h p w z n ≤ grt h p w' z n := sumN_le n fun i _ => by
  unfold tpc
  generalize ((i : Int) + 1) * p = A
  generalize ((n : Int) - 1 - i) * p = B
  omega
theorem lea_mono {w w' : Int} (hw : w ≤ w') (z : Int) (n : Nat) : lea p l w z n ≤ lea p l w' z n := sumN_le n fun i _ => by
  unfold btc
  generalize ((i : Int) + 1) * p = A
  generalize ((n : Int) - 1 - i) * p = B
  omega
noncomputable def isWay (l h p : Int) : Int → List Int → Prop
  | _, [] => True
  | v, w :: ws => (l ≤ w ∧ w ≤ h ∧ v - p ≤ w ∧ w ≤ v + p) ∧ isWay l h p w ws
noncomputable def lastP : Int → List Int → Int
  | v, [] => v
  | _, w :: ws => lastP w ws
noncomputable def sumL : List Int → Int
  | [] => 0
  | w :: ws => w + sumL ws
noncomputable def Reach (l h p v z : Int) (n : Nat) (L : Int) : Prop := ∃ ws : List Int, ws.length = n ∧ isWay l h p v ws ∧ lastP v ws = z ∧ sumL ws = L
theorem Reach.zero {v z L : Int} : Reach l h p v z 0 L ↔ v = z ∧ L = 0 := by
  constructor
  · rintro ⟨ws, hl, _, h1, h2⟩
    have := List.eq_nil_of_length_eq_zero hl
    subst this
    exact ⟨h1, h2.symm⟩
  · rintro ⟨rfl, rfl⟩; exact ⟨[], rfl, trivial, rfl, rfl⟩
theorem Reach.succ {v z L : Int} {n : Nat} : Reach l h p v z (n + 1) L ↔ ∃ w, (l ≤ w ∧ w ≤ h ∧ v - p ≤ w ∧ w ≤ v + p) ∧ Reach l h p w z n (L - w) := by
  constructor
  · rintro ⟨ws, hl, hw, h1, h2⟩
    cases ws with
    | nil => simp at hl
    | cons w ws => exact ⟨w, hw.1, ws, by simpa using hl, hw.2, h1, by simp only [sumL] at h2; omega⟩
  · rintro ⟨w, hw, ws, hl, h0, h1, h2⟩
    exact ⟨w :: ws, by simp [hl], ⟨hw, h0⟩, h1, by simp only [sumL]; omega⟩
theorem find_between (A B : Int → Int) (L : Int) : ∀ (k : Nat) (a b : Int), b - a = k → A a ≤ L → L ≤ B b → (∀ w, a ≤ w → w < b → A (w + 1) ≤ B w + 1) → ∃ w, a ≤ w ∧ w ≤ b ∧ A w ≤ L ∧ L ≤ B w
  | 0, a, b, e, h1, h2, _ => ⟨a, by omega, by omega, h1, by rw [show a = b by omega]; exact h2⟩
  | k + 1, a, b, e, h1, h2, h3 => by
    by_cases hL : L ≤ B a
    · exact ⟨a, by omega, by omega, h1, hL⟩
    · have := h3 a (by omega) (by omega)
      obtain ⟨w, q1, q2, q3, q4⟩ := find_between A B L k (a + 1) b (by omega) (by omega) h2 fun w h4 h5 => h3 w (by omega) h5
      exact ⟨w, by omega, q2, q3, q4⟩
theorem lea_le_grt {w z : Int} {n : Nat} (hp : 1 ≤ p) (hw : l ≤ w) (hw' : w + 1 ≤ h) (hz : l ≤ z) (hz' : z ≤ h) (h1 : w + 1 ≤ z + (n : Int) * p) (h2 : z - (n : Int) * p ≤ w) : lea p l (w + 1) z n ≤ grt h p w z n :=
  sumN_le n fun i hi => by
    obtain ⟨A, B, eA, eB, eS, hA, hB⟩ := ap_bp (p := p) hi hp
    unfold btc tpc
    rw [← eA, ← eB]
    rw [← eS] at h1 h2
    omega
/-- which lengths ways have -/
theorem reach_iff (hp : 1 ≤ p) {z : Int} (hz : l ≤ z) (hz' : z ≤ h) : ∀ (n : Nat) (v L : Int), l ≤ v → v ≤ h → (Reach l h p v z n L ↔ (z - v ≤ (n : Int) * p ∧ v - z ≤ (n : Int) * p ∧ lea p l v z n ≤ L ∧ L ≤ grt h p v z n))
  | 0, v, L, hv, hv' => by
    rw [Reach.zero]
    simp only [lea, grt, sumN]
    omega
  | n + 1, v, L, hv, hv' => by
    have e : ((n + 1 : Nat) : Int) * p = (n : Int) * p + p := by rw [show ((n + 1 : Nat) : Int) = (n : Int) + 1 from rfl, Int.add_mul, Int.one_mul]
    have hn : 0 ≤ (n : Int) * p := Int.mul_nonneg (by omega) (by omega)
    rw [Reach.succ, grt_succ hp, lea_succ hp, e]
    constructor
    · rintro ⟨w, ⟨w1, w2, w3, w4⟩, hr⟩
      obtain ⟨r1, r2, r3, r4⟩ := (reach_iff hp hz hz' n w (L - w) w1 w2).mp hr
      have t1 : w ≤ wTop h p v z n := by unfold wTop; omega
      have b1 : max l (max (v - p) (z - (n : Int) * p)) ≤ w := by omega
      have m1 := grt_mono (h := h) (p := p) t1 z n
      have m2 := lea_mono (l := l) (p := p) b1 z n
      refine ⟨by omega, by omega, by omega, by omega⟩
    · rintro ⟨r1, r2, r3, r4⟩
      have hle : max l (max (v - p) (z - (n : Int) * p)) ≤ wTop h p v z n := by unfold wTop; omega
      obtain ⟨w, q1, q2, q3, q4⟩ := find_between (fun w => w + lea p l w z n) (fun w => w + grt h p w z n) L (wTop h p v z n - max l (max (v - p) (z - (n : Int) * p))).toNat _ _ (by omega) r3 r4 fun w h1 h2 => by
        have t2 : wTop h p v z n ≤ h ∧ wTop h p v z n ≤ z + (n : Int) * p := by unfold wTop; omega
        have := lea_le_grt (l := l) (h := h) (p := p) (w := w) (z := z) (n := n) hp (by omega) (by omega) hz hz' (by omega) (by omega)
        omega
      have t2 : wTop h p v z n ≤ h ∧ wTop h p v z n ≤ z + (n : Int) * p ∧ wTop h p v z n ≤ v + p := by unfold wTop; omega
      refine ⟨w, ⟨by omega, by omega, by omega, by omega⟩, (reach_iff hp hz hz' n w (L - w) (by omega) (by omega)).mpr ⟨by omega, by omega, by omega, by omega⟩⟩
noncomputable def ris (h p c : Int) (n : Nat) : Int := sumN (fun i => min h (c + ((i : Int) + 1) * p)) n
theorem ris_low {c : Int} (hp : 1 ≤ p) : ∀ k : Nat, c + (k : Int) * p ≤ h → 2 * ris h p c k = 2 * ((k : Int) * c) + p * (k : Int) * ((k : Int) + 1)
  | 0, _ => by simp [ris, sumN]
  | k + 1, hk => by
    have e : ((k + 1 : Nat) : Int) * p = (k : Int) * p + p := by rw [show ((k + 1 : Nat) : Int) = (k : Int) + 1 from rfl, Int.add_mul, Int.one_mul]
    have ih := ris_low (c := c) hp k (by omega)
    have e2 : ris h p c (k + 1) = ris h p c k + (c + ((k : Int) * p + p)) := by
      show ris h p c k + min h (c + ((k : Int) + 1) * p) = _
      rw [show ((k : Int) + 1) * p = (k : Int) * p + p by rw [Int.add_mul, Int.one_mul]]
      omega
    rw [e2, Int.mul_add, ih, show ((k + 1 : Nat) : Int) = (k : Int) + 1 from rfl]
    grind
theorem ris_high {c : Int} (hp : 1 ≤ p) {k : Nat} (hk : h ≤ c + ((k : Int) + 1) * p) : ∀ m : Nat, ris h p c (k + m) = ris h p c k + (m : Int) * h := fun m => by
  unfold ris
  rw [sumN_add, sumN_const m fun i _ => ?_]
  have : ((k + i : Nat) : Int) + 1 = ((k : Int) + 1) + i := by omega
  rw [this, Int.add_mul]
  have : 0 ≤ (i : Int) * p := Int.mul_nonneg (by omega) (by omega)
  omega
/-- the closed form -/
theorem ris_form {c : Int} (hp : 1 ≤ p) (hc : c ≤ h) (n : Nat) : let f := min (n : Int) ((h - c) / p); 0 ≤ f ∧ f ≤ n ∧ f * c + p * f * (f + 1) / 2 + ((n : Int) - f) * h = ris h p c n := by
  intro f
  have q0 : 0 ≤ (h - c) / p := Int.ediv_nonneg (by omega) (by omega)
  have q1 : (h - c) / p * p ≤ h - c := Int.ediv_mul_le _ (by omega)
  have q2 : h - c < ((h - c) / p + 1) * p := Int.lt_ediv_add_one_mul_self _ (by omega)
  obtain ⟨k, hk⟩ : ∃ k : Nat, f = (k : Int) := ⟨f.toNat, by omega⟩
  have k1 : (k : Int) ≤ (h - c) / p := by omega
  have k2 : k ≤ n := by omega
  have kp : (k : Int) * p ≤ (h - c) / p * p := Int.mul_le_mul_of_nonneg_right k1 (by omega)
  have lo := ris_low (h := h) (c := c) hp k (by omega)
  have hi : ris h p c n = ris h p c k + ((n : Int) - k) * h := by
    by_cases e : k = n
    · subst e; rw [Int.sub_self, Int.zero_mul, Int.add_zero]
    · have ek : (k : Int) = (h - c) / p := by omega
      have := ris_high (h := h) (c := c) hp (k := k) (by rw [ek]; omega) (n - k)
      rw [show k + (n - k) = n by omega] at this
      rw [this]; congr 2; omega
  refine ⟨by omega, by omega, ?_⟩
  rw [hk, hi]
  congr 1
  omega
theorem grt_turn {b e : Int} {n : Nat} (hp : 1 ≤ p) (he : e ≤ h) (h1 : e - b ≤ (n : Int) * p) (h2 : b - e ≤ (n : Int) * p) : let t := (e - b + (n : Int) * p) / (2 * p); 0 ≤ t ∧ t ≤ n ∧ (t = n → grt h p b e n = ris h p b n) ∧ (t ≠ n → grt h p b e n = ris h p b t.toNat + e + ris h p e (n - t.toNat - 1)) := by
  intro t
  have t0 : 0 ≤ t := Int.ediv_nonneg (by omega) (by omega)
  have q1 : t * (2 * p) ≤ e - b + (n : Int) * p := Int.ediv_mul_le _ (by omega)
  have q2 : e - b + (n : Int) * p < (t + 1) * (2 * p) := Int.lt_ediv_add_one_mul_self _ (by omega)
  have e1 : t * (2 * p) = 2 * (t * p) := by rw [Int.mul_left_comm]
  have e2 : (t + 1) * (2 * p) = 2 * (t * p) + 2 * p := by rw [Int.mul_left_comm, Int.add_mul]; omega
  rw [e1] at q1
  rw [e2] at q2
  obtain ⟨k, hk⟩ : ∃ k : Nat, t = (k : Int) := ⟨t.toNat, by omega⟩
  clear_value t
  subst hk
  have kn : k ≤ n := by
    rcases Nat.lt_or_ge n k with z | z
    · exfalso
      have : ((n : Int) + 1) * p ≤ (k : Int) * p := Int.mul_le_mul_of_nonneg_right (by omega) (by omega)
      rw [Int.add_mul, Int.one_mul] at this
      omega
    · exact z
  -- up to the turn the way from the first pace bounds, behind it that to the last one
  have left : ∀ i, i < k → tpc h p b e n i = min h (b + ((i : Int) + 1) * p) := fun i hi => by
    have a1 : ((i : Int) + 1) * p ≤ (k : Int) * p := Int.mul_le_mul_of_nonneg_right (by omega) (by omega)
    have a2 : ((i : Int) + 1) * p + ((n : Int) - 1 - i) * p = (n : Int) * p := by rw [← Int.add_mul]; congr 1; omega
    unfold tpc
    omega
  have right : ∀ i, k ≤ i → i < n → tpc h p b e n i = min h (e + ((n : Int) - 1 - i) * p) := fun i hi hn => by
    have a1 : ((k : Int) + 1) * p ≤ ((i : Int) + 1) * p := Int.mul_le_mul_of_nonneg_right (by omega) (by omega)
    have a2 : ((i : Int) + 1) * p + ((n : Int) - 1 - i) * p = (n : Int) * p := by rw [← Int.add_mul]; congr 1; omega
    rw [Int.add_mul, Int.one_mul] at a1
    unfold tpc
    omega
  refine ⟨by omega, by omega, fun ht => ?_, fun ht => ?_⟩
  · have : k = n := by omega
    subst this
    exact sumN_congr k left
  · have kn' : k < n := by omega
    unfold grt
    rw [show n = k + (n - k) by omega, sumN_add]
    rw [show k + (n - k) = n by omega]
    rw [sumN_congr k left, Int.toNat_natCast]
    have er : sumN (fun i => tpc h p b e n (k + i)) (n - k) = sumN (fun i => min h (e + (((n - k) - 1 - i : Nat) : Int) * p)) (n - k) := sumN_congr _ fun i hi => by
      rw [right (k + i) (by omega) (by omega)]
      congr 3
      omega
    rw [er, sumN_rev (fun j => min h (e + (j : Int) * p))]
    obtain ⟨m, hm⟩ : ∃ m, n - k = m + 1 := ⟨n - k - 1, by omega⟩
    rw [hm, sumN_shift, show m + 1 - 1 = m by omega]
    unfold ris
    have e0 : min h (e + ((0 : Nat) : Int) * p) = e := by rw [Int.natCast_zero, Int.zero_mul]; omega
    rw [e0, Int.add_assoc]
    rfl
end
end DL
namespace DL
open PySem PySem.Spec PyProof.Rows L2
noncomputable def risingC : List CS := [.asg (.name 4) (.bi .min2 false [(.var 2), (.bin .FloorDiv false (.bin .Sub false (.var 3) (.var 0)) (.var 1))]),
  .ret (.bin .Add false (.bin .Add false (.bin .Mult false (.var 4) (.var 0)) (.bin .FloorDiv false (.bin .Mult false (.bin .Mult false (.var 1) (.var 4)) (.bin .Add false (.var 4) (.con (.int 1)))) (.con (.int 2)))) (.bin .Mult false (.bin .Sub false (.var 2) (.var 4)) (.var 3)))]
theorem if_min (i j : Int) : (if j < i then j else i) = min i j := by split <;> omega
theorem if_max (i j : Int) : (if j > i then j else i) = max i j := by split <;> omega
theorem if_min3 (i j k : Int) : (if k < (if j < i then j else i) then k else if j < i then j else i) = min i (min j k) := by
  rw [if_min]; split <;> omega
theorem if_max3 (i j k : Int) : (if k > (if j > i then j else i) then k else if j > i then j else i) = max i (max j k) := by
  rw [if_max]; split <;> omega
noncomputable def spRis (ds : List D) (S : DStore) (Q : QE) : Prop := ∃ c p h : Int, ∃ n : Nat, ds = [.int c, .int p, .int n, .int h] ∧ 1 ≤ p ∧ c ≤ h ∧ n ≤ 1000000 ∧ p ≤ 1000000000 ∧ -1000000000 ≤ c ∧ h ≤ 1000000000 ∧ Q (.int (ris h p c n)) S
theorem spRis_len : ∀ ds S Q, spRis ds S Q → ds.length = 4 := by rintro _ _ _ ⟨_, _, _, _, rfl, _⟩; rfl
theorem ris_ok {G : Fns} : ∀ ds S Q, spRis ds S Q → wpSs G risingC (startD 5 ds) S { nx := fun _ S' => Q .non S', rt := Q } := by
  rintro ds S Q ⟨c, p, h, n, rfl, hp, hc, hn, hp9, hc9, hh9, hQ⟩
  obtain ⟨f0, f1, ef⟩ := ris_form hp hc n
  unfold risingC
  simp_arith only []
  rw [if_min, fdiv_e (by omega), fdiv_e (by decide)]
  generalize min (n : Int) ((h - c) / p) = f at *
  refine ⟨div_om (by omega) (by omega) (by omega), mul_small_left (by omega) (by omega), mul_small_left (by omega) (by omega), mul_small_right (by omega) (by omega), div_om (by omega) (by omega) (by omega), mul_small_left (by omega) (by omega), ?_⟩
  rw [ef]; exact hQ
noncomputable def greatC (jr : Nat) : List CS := [.asg (.name 5) (.bin .FloorDiv false (.bin .Add false (.bin .Sub false (.var 3) (.var 2)) (.bin .Mult false (.var 4) (.var 1))) (.bin .Mult false (.con (.int 2)) (.var 1))),
  .if_ (.ccmp .Eq (.var 5) (.var 4)) [.ret (.call jr [(.var 2), (.var 1), (.var 4), (.var 0)])] [],
  .ret (.bin .Add false (.bin .Add false (.call jr [(.var 2), (.var 1), (.var 5), (.var 0)]) (.var 3)) (.call jr [(.var 3), (.var 1), (.bin .Sub false (.bin .Sub false (.var 4) (.var 5)) (.con (.int 1))), (.var 0)]))]
noncomputable def spGrt (ds : List D) (S : DStore) (Q : QE) : Prop := ∃ h p b e : Int, ∃ n : Nat, ds = [.int h, .int p, .int b, .int e, .int n] ∧ 1 ≤ p ∧ b ≤ h ∧ e ≤ h ∧ e - b ≤ (n : Int) * p ∧ b - e ≤ (n : Int) * p ∧ n ≤ 1000000 ∧ p ≤ 1000000000 ∧ -1000000000 ≤ b ∧ -1000000000 ≤ e ∧ h ≤ 1000000000 ∧ Q (.int (grt h p b e n)) S
theorem spGrt_len : ∀ ds S Q, spGrt ds S Q → ds.length = 5 := by rintro _ _ _ ⟨_, _, _, _, _, rfl, _⟩; rfl
theorem grt_ok {G : Fns} {jr : Nat} (hr : G.fn jr = spRis) : ∀ ds S Q, spGrt ds S Q → wpSs G (greatC jr) (startD 6 ds) S { nx := fun _ S' => Q .non S', rt := Q } := by
  rintro ds S Q ⟨h, p, b, e, n, rfl, hp, hb, he, h1, h2, hn, hp9, hb9, he9, hh9, hQ⟩
  obtain ⟨t0, t1, e1, e2⟩ := grt_turn (h := h) hp he h1 h2
  unfold greatC
  simp_arith only [hr]
  rw [fdiv_e (by omega)]
  have np : 0 ≤ (n : Int) * p := Int.mul_nonneg (by omega) (by omega)
  generalize (e - b + (n : Int) * p) / (2 * p) = t at *
  obtain ⟨k, rfl⟩ := Int.eq_ofNat_of_zero_le t0
  refine ⟨mul_small_left (by omega) (by omega), mul_small_left (by omega) (by omega), div_om (by omega) (by omega) (by omega), if_i (fun ht => ?_) fun ht => ?_⟩
  · (try simp_arith only [hr])
    rw [e1 ht] at hQ
    exact ⟨b, p, h, n, rfl, hp, hb, hn, hp9, hb9, hh9, hQ⟩
  · (try simp_arith only [hr])
    rw [e2 ht] at hQ
    refine ⟨b, p, h, k, rfl, hp, hb, by omega, hp9, hb9, hh9, ?_⟩
    (try simp_arith only [hr])
    refine ⟨e, p, h, n - k - 1, by rw [show (((n - k - 1 : Nat)) : Int) = (n : Int) - k - 1 by omega], hp, he, by omega, hp9, he9, hh9, hQ⟩
noncomputable def spreadC (jg : Nat) : List CS := [.asg (.tup [(.name 4), (.name 5), (.name 6)]) (.var 0),
  .if_ (.ccmp .Gt (.bi .abs false [(.bin .Sub false (.var 2) (.var 1))]) (.bin .Mult false (.var 3) (.var 6))) [.ret (.con .non)] [],
  .ret (.tup [(.neg (.call jg [(.neg (.var 4)), (.var 6), (.neg (.var 1)), (.neg (.var 2)), (.var 3)])), (.call jg [(.var 5), (.var 6), (.var 1), (.var 2), (.var 3)])])]
noncomputable def bndD (l h p : Int) : D := .tup [.int l, .int h, .int p]
structure BdOk (l h p v z : Int) : Prop where
  p1 : 1 ≤ p
  p2 : p ≤ 1000000000
  lv : l ≤ v
  vh : v ≤ h
  lz : l ≤ z
  zh : z ≤ h
  l9 : -1000000000 ≤ l
  h9 : h ≤ 1000000000
noncomputable def spreadD (l h p v z : Int) (n : Nat) : D := if (n : Int) * p < (if z - v < 0 then -(z - v) else z - v) then .non else .tup [.int (lea p l v z n), .int (grt h p v z n)]
noncomputable def spSpread (ds : List D) (S : DStore) (Q : QE) : Prop := ∃ l h p v z : Int, ∃ n : Nat, ds = [bndD l h p, .int v, .int z, .int n] ∧ BdOk l h p v z ∧ n ≤ 1000000 ∧ Q (spreadD l h p v z n) S
theorem spSpread_len : ∀ ds S Q, spSpread ds S Q → ds.length = 4 := by rintro _ _ _ ⟨_, _, _, _, _, _, rfl, _⟩; rfl
theorem spread_ok {G : Fns} {jg : Nat} (hg : G.fn jg = spGrt) : ∀ ds S Q, spSpread ds S Q → wpSs G (spreadC jg) (startD 7 ds) S { nx := fun _ S' => Q .non S', rt := Q } := by
  rintro ds S Q ⟨l, h, p, v, z, n, rfl, B, hn, hQ⟩
  have := B.p1; have := B.p2; have := B.lv; have := B.vh; have := B.lz; have := B.zh; have := B.l9; have := B.h9
  unfold spreadC bndD
  simp_arith only []
  refine ⟨trivial, mul_small_left (by omega) (by omega), if_i (fun ht => ?_) fun ht => ?_⟩
  · unfold spreadD at hQ
    rw [if_pos ht] at hQ
    (try simp_arith only [])
    exact hQ
  · unfold spreadD at hQ
    rw [if_neg ht] at hQ
    (try simp_arith only [hg])
    have hd : z - v ≤ (n : Int) * p ∧ v - z ≤ (n : Int) * p := by split at ht <;> omega
    refine ⟨-l, p, -v, -z, n, rfl, by omega, by omega, by omega, by omega, by omega, hn, by omega, by omega, by omega, by omega, ?_⟩
    (try simp_arith only [hg])
    refine ⟨h, p, v, z, n, rfl, by omega, by omega, by omega, by omega, by omega, hn, by omega, by omega, by omega, by omega, ?_⟩
    rw [← lea_neg]
    exact hQ
/-- a way of so many beats has that length -/
noncomputable def okNw (l h p v z L : Int) (n : Nat) : Prop := z - v ≤ (n : Int) * p ∧ v - z ≤ (n : Int) * p ∧ lea p l v z n ≤ L ∧ L ≤ grt h p v z n
noncomputable instance {l h p v z L : Int} {n : Nat} : Decidable (okNw l h p v z L n) := by unfold okNw; exact inferInstance
noncomputable def wdS (l h p v z L : Int) (n : Nat) : Str := if (n : Int) * p < (if z - v < 0 then -(z - v) else z - v) then "turn" else if grt h p v z n < L then "far" else if L < lea p l v z n then "near" else ""
theorem wd_iff (l h p v z L : Int) (n : Nat) : wdS l h p v z L n = "" ↔ okNw l h p v z L n := by
  unfold wdS okNw
  have e1 : ("turn" : Str) ≠ "" := by decide
  have e2 : ("far" : Str) ≠ "" := by decide
  have e3 : ("near" : Str) ≠ "" := by decide
  obtain ⟨a, ea, h1, h2, h3⟩ : ∃ a, (if z - v < 0 then -(z - v) else z - v) = a ∧ z - v ≤ a ∧ v - z ≤ a ∧ (a = z - v ∨ a = v - z) := ⟨_, rfl, by split <;> omega, by split <;> omega, by split <;> omega⟩
  rw [ea]
  by_cases c1 : (n : Int) * p < a
  · rw [if_pos c1]
    exact ⟨fun h => absurd h e1, fun h => by omega⟩
  · rw [if_neg c1]
    by_cases c2 : grt h p v z n < L
    · rw [if_pos c2]
      exact ⟨fun h => absurd h e2, fun h => by omega⟩
    · rw [if_neg c2]
      by_cases c3 : L < lea p l v z n
      · rw [if_pos c3]
        exact ⟨fun h => absurd h e3, fun h => by omega⟩
      · rw [if_neg c3]
        exact ⟨fun _ => by omega, fun _ => rfl⟩
noncomputable def wordC (js : Nat) : List CS := [.asg (.name 5) (.call js [(.var 0), (.var 1), (.var 2), (.var 4)]),
  .if_ (.ccmp .Is (.var 5) (.con .non)) [.ret (.con (.str "turn"))] [],
  .asg (.tup [(.name 6), (.name 7)]) (.var 5),
  .if_ (.ccmp .Gt (.var 3) (.var 7)) [.ret (.con (.str "far"))] [],
  .ret (.ite (.ccmp .Lt (.var 3) (.var 6)) (.con (.str "near")) (.con (.str "")))]
noncomputable def spWd (ds : List D) (S : DStore) (Q : QE) : Prop := ∃ l h p v z L : Int, ∃ n : Nat, ds = [bndD l h p, .int v, .int z, .int L, .int n] ∧ BdOk l h p v z ∧ n ≤ 1000000 ∧ Q (.str (wdS l h p v z L n)) S
theorem spWd_len : ∀ ds S Q, spWd ds S Q → ds.length = 5 := by rintro _ _ _ ⟨_, _, _, _, _, _, _, rfl, _⟩; rfl
theorem wd_ok {G : Fns} {js : Nat} (hs : G.fn js = spSpread) : ∀ ds S Q, spWd ds S Q → wpSs G (wordC js) (startD 8 ds) S { nx := fun _ S' => Q .non S', rt := Q } := by
  rintro ds S Q ⟨l, h, p, v, z, L, n, rfl, B, hn, hQ⟩
  unfold wordC
  simp_arith only [hs]
  refine ⟨l, h, p, v, z, n, rfl, B, hn, ?_⟩
  unfold spreadD
  unfold wdS at hQ
  by_cases h1 : (n : Int) * p < (if z - v < 0 then -(z - v) else z - v)
  · rw [if_pos h1] at hQ ⊢
    (try simp_arith only [isNon])
    exact hQ
  · rw [if_neg h1] at hQ ⊢
    (try simp_arith only [isNon])
    refine ⟨trivial, if_i (fun h2 => ?_) fun h2 => ?_⟩
    · rw [if_pos h2] at hQ; exact hQ
    · rw [if_neg h2] at hQ
      refine if_i (fun h3 => ?_) fun h3 => ?_
      · rw [if_pos h3] at hQ; exact hQ
      · rw [if_neg h3] at hQ; exact hQ
noncomputable def fewO (l h p v z L : Int) (m : Nat) : Option Nat := (List.range (m + 1)).find? fun n => decide (okNw l h p v z L n)
noncomputable def optD : Option Nat → D
  | none => .non
  | some n => .int n
theorem few_some {l h p v z L : Int} {m n : Nat} (hn : n ≤ m) (h1 : okNw l h p v z L n) (h2 : ∀ k, k < n → ¬ okNw l h p v z L k) : fewO l h p v z L m = some n := by
  unfold fewO
  rw [List.find?_range_eq_some]
  exact ⟨by simpa using h1, by simp; omega, fun j hj => by simpa using h2 j hj⟩
theorem few_none {l h p v z L : Int} {m : Nat} (h2 : ∀ k, k ≤ m → ¬ okNw l h p v z L k) : fewO l h p v z L m = none := by
  unfold fewO
  rw [List.find?_eq_none]
  intro x hx
  have := h2 x (by have := List.mem_range.mp hx; omega)
  simpa using this
structure Bd12 (l h p v z : Int) : Prop where
  b : BdOk l h p v z
  l12 : -12 ≤ l
  h12 : h ≤ 12
  p3 : p ≤ 1000
noncomputable def spLens (ds : List D) (S : DStore) (Q : QE) : Prop := ∃ l h p v z : Int, ∃ n : Nat, ds = [bndD l h p, .int v, .int z, .int n] ∧ Bd12 l h p v z ∧ n ≤ 1000000 ∧ Q (spreadD l h p v z n) S
theorem spLens_len : ∀ ds S Q, spLens ds S Q → ds.length = 4 := by rintro _ _ _ ⟨_, _, _, _, _, _, rfl, _⟩; rfl
noncomputable def word2C (jl : Nat) : List CS := [.asg (.name 5) (.call jl [(.var 0), (.var 1), (.var 2), (.var 4)]),
  .if_ (.ccmp .Is (.var 5) (.con .non)) [.ret (.con (.str "turn"))] [],
  .ret (.ite (.ccmp .Gt (.var 3) (.ix (.var 5) (.con (.int 1)))) (.con (.str "far")) (.ite (.ccmp .Lt (.var 3) (.ix (.var 5) (.con (.int 0)))) (.con (.str "near")) (.con (.str ""))))]
noncomputable def spWd2 (ds : List D) (S : DStore) (Q : QE) : Prop := ∃ l h p v z L : Int, ∃ n : Nat, ds = [bndD l h p, .int v, .int z, .int L, .int n] ∧ Bd12 l h p v z ∧ n ≤ 1000000 ∧ Q (.str (wdS l h p v z L n)) S
theorem spWd2_len : ∀ ds S Q, spWd2 ds S Q → ds.length = 5 := by rintro _ _ _ ⟨_, _, _, _, _, _, _, rfl, _⟩; rfl
theorem wd2_ok {G : Fns} {js : Nat} (hs : G.fn js = spLens) : ∀ ds S Q, spWd2 ds S Q → wpSs G (word2C js) (startD 6 ds) S { nx := fun _ S' => Q .non S', rt := Q } := by
  rintro ds S Q ⟨l, h, p, v, z, L, n, rfl, B, hn, hQ⟩
  unfold word2C
  simp_arith only [hs]
  refine ⟨l, h, p, v, z, n, rfl, B, hn, ?_⟩
  unfold spreadD
  unfold wdS at hQ
  by_cases h1 : (n : Int) * p < (if z - v < 0 then -(z - v) else z - v)
  · rw [if_pos h1] at hQ ⊢
    (try simp_arith only [isNon])
    exact hQ
  · rw [if_neg h1] at hQ ⊢
    (try simp_arith only [isNon])
    refine if_i (fun h2 => ?_) fun h2 => ?_
    · rw [if_pos h2] at hQ; exact hQ
    · rw [if_neg h2] at hQ
      refine if_i (fun h3 => ?_) fun h3 => ?_
      · rw [if_pos h3] at hQ; exact hQ
      · rw [if_neg h3] at hQ; exact hQ
noncomputable def few2C (jw : Nat) : List CS := [.for_ (.name 5) (.range1 (.bin .Add false (.var 4) (.con (.int 1)))) [.if_ (.ccmp .Eq (.call jw [(.var 0), (.var 1), (.var 2), (.var 3), (.var 5)]) (.con (.str ""))) [.ret (.var 5)] []],
  .ret (.con .non)]
noncomputable def spFew2 (ds : List D) (S : DStore) (Q : QE) : Prop := ∃ l h p v z L : Int, ∃ m : Nat, ds = [bndD l h p, .int v, .int z, .int L, .int m] ∧ Bd12 l h p v z ∧ m ≤ 1000 ∧ Q (optD (fewO l h p v z L m)) S
theorem spFew2_len : ∀ ds S Q, spFew2 ds S Q → ds.length = 5 := by rintro _ _ _ ⟨_, _, _, _, _, _, _, rfl, _⟩; rfl
theorem few2_ok {G : Fns} {jw : Nat} (hw : G.fn jw = spWd2) : ∀ ds S Q, spFew2 ds S Q → wpSs G (few2C jw) (startD 6 ds) S { nx := fun _ S' => Q .non S', rt := Q } := by
  rintro ds S Q ⟨l, h, p, v, z, L, m, rfl, B, hm, hQ⟩
  unfold few2C
  simp_arith only []
  (repeat (refine And.intro (by first | omega | exact DL.mul_small_left (by omega) (by omega) | exact DL.mul_small_right (by omega) (by omega) | exact DL.div_om (by omega) (by omega) (by omega) | exact DL.cpow1 (by omega) (by omega) | exact ⟨by omega, by omega⟩ | exact DL.len_le (by (try simp only [List.length_map, List.length_append, List.length_cons, List.length_nil]); omega) | exact DL.len_lt (by (try simp only [List.length_map, List.length_append, List.length_cons, List.length_nil]); omega) | trivial | decide) ?_))
  refine walk_range (fun i ρ S' => (∃ r5, ρ = [some (bndD l h p), some (.int v), some (.int z), some (.int L), some (.int m), r5]) ∧ S' = S ∧ ∀ k, k < i → ¬ okNw l h p v z L k) ⟨⟨_, rfl⟩, rfl, fun k hk => absurd hk (by omega)⟩ (fun _ _ _ _ => trivial) (fun i ρ S' hi hp => ?_) (fun ρ S' hp => ?_)
  · obtain ⟨⟨r5, rfl⟩, rfl, hno⟩ := hp
    unfold DL.forTurn
    (try simp_arith only [hw, Int.zero_add])
    refine ⟨l, h, p, v, z, L, i, rfl, B, by omega, ?_⟩
    (try simp_arith only [])
    refine if_i (fun he => ?_) fun he => ?_
    · have h1 := (wd_iff l h p v z L i).mp he
      rw [few_some (by omega) h1 hno] at hQ
      (try simp_arith only [])
      exact hQ
    · (try simp_arith only [])
      refine ⟨⟨_, rfl⟩, trivial, fun k hk => ?_⟩
      by_cases e : k = i
      · subst e; exact fun z => he ((wd_iff _ _ _ _ _ _ _).mpr z)
      · exact hno k (by omega)
  · obtain ⟨⟨r5, rfl⟩, rfl, hno⟩ := hp
    rw [few_none fun k hk => hno k (by omega)] at hQ
    (try simp_arith only [])
    exact hQ
noncomputable def caseC (jt : Nat) : List CS := [.par2 3 4 (.bin .Sub false (.con (.int 0)) (.call jt [(.var 0), (.bin .Add false (.var 1) (.con (.int 1)))])) (.call jt [(.var 0), (.bin .Add false (.var 1) (.con (.int 1)))]),
  .asg (.name 2) (.bin .Add false (.con (.int 1)) (.call jt [(.var 0), (.con (.int 3))])),
  .ret (.tup [(.tup [(.var 3), (.var 4), (.var 2)]), (.bin .Add false (.var 3) (.call jt [(.var 0), (.bin .Add false (.bin .Sub false (.var 4) (.var 3)) (.con (.int 1)))])), (.bin .Add false (.var 3) (.call jt [(.var 0), (.bin .Add false (.bin .Sub false (.var 4) (.var 3)) (.con (.int 1)))]))])]
noncomputable def spCase (ds : List D) (S : DStore) (Q : QE) : Prop := ∃ n T most, ds = [.ref n, .int most] ∧ Pot n T S ∧ T < 10000000 ∧ 0 ≤ most ∧ most ≤ 12 ∧ ∀ (l h p v z : Int) S', Bd12 l h p v z → -most ≤ l → l ≤ 0 → 0 ≤ h → h ≤ most → p ≤ 3 → Pot n (T + 5) S' → Fr n S S' → Q (.tup [bndD l h p, .int v, .int z]) S'
theorem spCase_len : ∀ ds S Q, spCase ds S Q → ds.length = 2 := by rintro _ _ _ ⟨_, _, _, rfl, _⟩; rfl
theorem case_ok {G : Fns} {jt : Nat} (ht : G.fn jt = spTake) : ∀ ds S Q, spCase ds S Q → wpSs G (caseC jt) (startD 5 ds) S { nx := fun _ S' => Q .non S', rt := Q } := by
  rintro ds S Q ⟨n, T, most, rfl, hP, hT, h0, h12, hQ⟩
  have hB : Fr n S S := .refl
  unfold caseC
  simp_arith only [ht]
  refine DL.takeP hP (by omega) (by omega) (by omega) fun a1 S _ _ hP hF _ => ?_; replace hB := hB.trans hF; clear hF
  (try simp_arith only [ht])
  refine DL.takeP hP (by omega) (by omega) (by omega) fun a2 S _ _ hP hF _ => ?_; replace hB := hB.trans hF; clear hF
  (try simp_arith only [ht])
  refine DL.takeP hP (by omega) (by omega) (by omega) fun a3 S _ _ hP hF _ => ?_; replace hB := hB.trans hF; clear hF
  (try simp_arith only [ht])
  refine DL.takeP hP (by omega) (by omega) (by omega) fun a4 S _ _ hP hF _ => ?_; replace hB := hB.trans hF; clear hF
  (try simp_arith only [ht])
  refine DL.takeP hP (by omega) (by omega) (by omega) fun a5 S _ _ hP hF _ => ?_; replace hB := hB.trans hF; clear hF
  exact hQ _ _ _ _ _ _ ⟨⟨by omega, by omega, by omega, by omega, by omega, by omega, by omega, by omega⟩, by omega, by omega, by omega⟩ (by omega) (by omega) (by omega) (by omega) (by omega) (hP.mono (by omega)) hB
end DL
namespace DL
open PySem PySem.Spec PyProof.Rows L2
theorem purs_ints : ∀ xs : List Int, purs (xs.map D.int) = some (xs.map PyData.int)
  | [] => rfl
  | x :: xs => by simp only [List.map_cons, purs, pur, purs_ints xs, Option.bind_some, Option.map_some]
theorem alike_int2 : ∀ a b : List Int, PySem.W.alikeAll (a.map PyData.int) (b.map PyData.int) = true
  | [], _ => rfl
  | _ :: _, [] => rfl
  | x :: a, y :: b => by
    simp only [List.map_cons]
    rw [PySem.W.alikeAll, alike_int2 a b]; rfl
theorem dep_ints (a : List Int) : (PyData.tuple (a.map PyData.int)).depth ≤ 10 := by
  have : PyData.depthAll (a.map PyData.int) = 0 := depth_ints a
  simp only [PyData.depth]
  omega
theorem lay_ints : ∀ xs : List Int, PyData.canLayAll0 (xs.map PyData.int) = true
  | [] => rfl
  | x :: xs => by simp only [List.map_cons, PyData.canLayAll0, PyData.canLay0, lay_ints xs, Bool.and_self]
theorem gt_ints {S : DStore} {a b : List Int} {QB : Bool → Prop} (h : QB (PySem.W.dataLt (.tuple (b.map .int)) (.tuple (a.map .int)))) : cmpD .Gt S (.tup (a.map D.int)) (.tup (b.map D.int)) QB :=
  ⟨.tuple (a.map .int), .tuple (b.map .int), by simp only [purS, pur, purs_ints]; rfl, by simp only [purS, pur, purs_ints]; rfl, alike_int2 a b, (fun z => nomatch z), dep_ints a, h⟩
theorem q_notInK {S : DStore} {ks : List L2.Key} {n : Nat} {QB : Bool → Prop} : cmpD .NotIn S (.key ks) (.ref n) QB = ∃ kvs, dctOf S n = some kvs ∧ QB (!(valD kvs ks).isSome) := by
  simp only [cmpD, inD, D.ref.injEq, eq_iff_iff]
  constructor
  · rintro ⟨_, kvs, rfl, h⟩; exact ⟨kvs, h⟩
  · rintro ⟨kvs, h⟩; exact ⟨n, kvs, rfl, h⟩
theorem dct_at {S : DStore} {n : Nat} {kvs : List (List L2.Key × D)} (h : S[n]? = some (.dct kvs)) : dctOf S n = some kvs := by unfold dctOf; rw [h]
noncomputable def key2 (z L : Int) : List L2.Key := [.inl z, .inl L]
theorem key2_inj {z L z' L' : Int} (h : key2 z L = key2 z' L') : z = z' ∧ L = L' := by
  unfold key2 at h
  simp only [List.cons.injEq, Sum.inl.injEq, and_true] at h
  exact h
section
variable {l h p : Int}
theorem way_snoc : ∀ (ws : List Int) (v w : Int), isWay l h p v (ws ++ [w]) ↔ isWay l h p v ws ∧ (l ≤ w ∧ w ≤ h ∧ lastP v ws - p ≤ w ∧ w ≤ lastP v ws + p)
  | [], v, w => by simp only [List.nil_append, isWay, lastP]; exact ⟨fun h => ⟨trivial, h.1⟩, fun h => ⟨h.2, trivial⟩⟩
  | u :: ws, v, w => by
    simp only [List.cons_append, isWay, lastP]
    rw [way_snoc ws u w]
    exact ⟨fun ⟨a, b, c⟩ => ⟨⟨a, b⟩, c⟩, fun ⟨⟨a, b⟩, c⟩ => ⟨a, b, c⟩⟩
theorem last_snoc : ∀ (ws : List Int) (v w : Int), lastP v (ws ++ [w]) = w
  | [], _, _ => rfl
  | u :: ws, _, w => last_snoc ws u w
theorem sum_snoc : ∀ (ws : List Int) (w : Int), sumL (ws ++ [w]) = sumL ws + w
  | [], w => by simp only [List.nil_append, sumL]; omega
  | u :: ws, w => by simp only [List.cons_append, sumL]; rw [sum_snoc ws w]; omega
theorem snoc_of {m : Nat} {ws : List Int} (hl : ws.length = m + 1) : ∃ us w, ws = us ++ [w] ∧ us.length = m := by
  refine ⟨ws.dropLast, ws.getLast (by intro e; subst e; simp at hl), (List.dropLast_concat_getLast _).symm, by simp [hl]⟩
end
theorem nodup_put {kvs : List (List L2.Key × D)} {k : List L2.Key} {d : D} (h : (kvs.map (·.1)).Nodup) : ((putD kvs k d).map (·.1)).Nodup := by
  unfold putD
  split
  · rw [List.map_map]
    have : ((fun q : List L2.Key × D => q.1) ∘ fun kv => if kv.1 = k then (kv.1, d) else kv) = fun q => q.1 := by
      funext q
      simp only [Function.comp]
      split <;> rfl
    rw [this]; exact h
  · rename_i hn
    rw [List.map_append, List.nodup_append]
    refine ⟨h, by simp, fun a ha b hb => ?_⟩
    simp only [List.map_cons, List.map_nil, List.mem_cons, List.not_mem_nil, or_false] at hb
    subst hb
    rintro rfl
    obtain ⟨q, hq, rfl⟩ := List.mem_map.mp ha
    exact hn (List.any_eq_true.mpr ⟨q, hq, by simp⟩)
noncomputable def WAll (l h p v : Int) (m : Nat) (kvs : List (List L2.Key × D)) : Prop := ∀ q ∈ kvs, ∃ ws : List Int, ws.length = m ∧ isWay l h p v ws ∧ q = (key2 (lastP v ws) (sumL ws), .tup (ws.map D.int))
structure WD (l h p v : Int) (m : Nat) (kvs : List (List L2.Key × D)) : Prop where
  all : WAll l h p v m kvs
  has : ∀ z L, Reach l h p v z m L → (valD kvs (key2 z L)).isSome = true
  len : kvs.length ≤ 7 ^ m
  nd : (kvs.map (·.1)).Nodup
/-- a new dict, the first so many keys of the one ahead gone through, of the next one the paces below w -/
structure WP (l h p v : Int) (m : Nat) (ks : List (List L2.Key)) (c : Nat) (part : Int → Int → Int → Prop) (kvs : List (List L2.Key × D)) : Prop where
  all : WAll l h p v (m + 1) kvs
  done : ∀ u L w, key2 u L ∈ ks → (l ≤ w ∧ w ≤ h ∧ u - p ≤ w ∧ w ≤ u + p) → (valD kvs (key2 w (L + w))).isSome = true
  part : ∀ u L w, part u L w → (valD kvs (key2 w (L + w))).isSome = true
  len : kvs.length ≤ c
  nd : (kvs.map (·.1)).Nodup
theorem WP.put {l h p v : Int} {m c : Nat} {ks : List (List L2.Key)} {part part' : Int → Int → Int → Prop} {kvs : List (List L2.Key × D)} (P : WP l h p v m ks c part kvs) {ws : List Int} {w : Int} (hl : ws.length = m) (hw : isWay l h p v ws) (hs : l ≤ w ∧ w ≤ h ∧ lastP v ws - p ≤ w ∧ w ≤ lastP v ws + p)
    (hp : ∀ u L w', part' u L w' → part u L w' ∨ key2 w' (L + w') = key2 w (sumL ws + w)) : WP l h p v m ks (c + 1) part' (putD kvs (key2 w (sumL ws + w)) (.tup (ws.map D.int ++ [.int w]))) := by
  have mono : ∀ k, (valD kvs k).isSome = true → (valD (putD kvs (key2 w (sumL ws + w)) (.tup (ws.map D.int ++ [.int w]))) k).isSome = true := fun k hk => by
    rw [valD_put]; split
    · rfl
    · exact hk
  refine ⟨fun q hq => ?_, fun u L w' h1 h2 => mono _ (P.done u L w' h1 h2), fun u L w' h1 => ?_, ?_, nodup_put P.nd⟩
  · rcases mem_put hq with rfl | hq
    · refine ⟨ws ++ [w], by simp [hl], (way_snoc ws v w).mpr ⟨hw, hs⟩, ?_⟩
      rw [last_snoc, sum_snoc, List.map_append]; rfl
    · exact P.all q hq
  · rcases hp u L w' h1 with h3 | h3
    · exact mono _ (P.part u L w' h3)
    · rw [h3, valD_put, if_pos rfl]; rfl
  · have := len_put (kvs := kvs) (k := key2 w (sumL ws + w)) (d := .tup (ws.map D.int ++ [.int w]))
    have := P.len
    omega
theorem WP.keep {l h p v : Int} {m c c' : Nat} {ks : List (List L2.Key)} {part part' : Int → Int → Int → Prop} {kvs : List (List L2.Key × D)} (P : WP l h p v m ks c part kvs) (hc : c ≤ c') (hp : ∀ u L w', part' u L w' → part u L w' ∨ (valD kvs (key2 w' (L + w'))).isSome = true) : WP l h p v m ks c' part' kvs :=
  ⟨P.all, P.done, fun u L w' h => (hp u L w' h).elim (P.part u L w') id, Nat.le_trans P.len hc, P.nd⟩
theorem WP.next {l h p v : Int} {m c : Nat} {ks : List (List L2.Key)} {u L : Int} {part' : Int → Int → Int → Prop} {kvs : List (List L2.Key × D)} (P : WP l h p v m ks c (fun u' L' w => u' = u ∧ L' = L ∧ (l ≤ w ∧ w ≤ h ∧ u - p ≤ w ∧ w ≤ u + p)) kvs) (hp : ∀ u L w', ¬ part' u L w') : WP l h p v m (ks ++ [key2 u L]) c part' kvs := by
  refine ⟨P.all, fun u' L' w h1 h2 => ?_, fun u' L' w' h => absurd h (hp _ _ _), P.len, P.nd⟩
  rcases List.mem_append.mp h1 with h1 | h1
  · exact P.done u' L' w h1 h2
  · simp only [List.mem_cons, List.not_mem_nil, or_false] at h1
    obtain ⟨rfl, rfl⟩ := key2_inj h1
    exact P.part _ _ w ⟨rfl, rfl, h2⟩
theorem WP.full {l h p v : Int} {m c : Nat} {kvs kvs0 : List (List L2.Key × D)} {part : Int → Int → Int → Prop} (w0 : WD l h p v m kvs0) (P : WP l h p v m (kvs0.map (·.1)) c part kvs) (hc : c ≤ 7 ^ (m + 1)) : WD l h p v (m + 1) kvs := by
  refine ⟨P.all, fun z L hr => ?_, Nat.le_trans P.len hc, P.nd⟩
  obtain ⟨ws, hl, hw, rfl, rfl⟩ := hr
  obtain ⟨us, w, rfl, hu⟩ := snoc_of hl
  obtain ⟨hw1, hw2⟩ := (way_snoc us v w).mp hw
  rw [last_snoc, sum_snoc]
  refine P.done (lastP v us) (sumL us) w ?_ hw2
  have h1 := w0.has _ _ ⟨us, hu, hw1, rfl, rfl⟩
  obtain ⟨d, hd⟩ := Option.isSome_iff_exists.mp h1
  exact List.mem_map.mpr ⟨_, valD_mem hd, rfl⟩
noncomputable def waysC : List CS := [.asg (.tup [(.name 5), (.name 6), (.name 7)]) (.var 0),
  .asg (.name 3) (.lst true [(.dnew1 [(.var 1), (.con (.int 0))] (.tup []))]),
  .for_ (.name 4) (.range1 (.var 2)) [.asg (.name 8) .dnew,
    .for_ (.tup [(.name 9), (.name 10)]) (.seq (.bi .listD false [(.ix (.var 3) (.neg (.con (.int 1))))])) [.asg (.name 11) (.ix (.ix (.var 3) (.neg (.con (.int 1)))) (.tup [(.var 9), (.var 10)])),
    .for_ (.name 12) (.range2 (.bi .max2 false [(.var 5), (.bin .Sub false (.var 9) (.var 7))]) (.bin .Add false (.bi .min2 false [(.var 6), (.bin .Add false (.var 9) (.var 7))]) (.con (.int 1)))) [.par2 13 14 (.ktup [(.var 12), (.bin .Add false (.var 10) (.var 12))]) (.bin .Add false (.var 11) (.tup [(.var 12)])),
    .if_ (.cor (.ccmp .NotIn (.var 13) (.var 8)) (.ccmp .Gt (.var 14) (.ix (.var 8) (.var 13)))) [.asg (.ksub (.var 8) (.var 13)) (.var 14)] []]],
    .append (.var 3) (.var 8)],
  .ret (.var 3)]
noncomputable def waysB : List CS := match waysC with
  | _ :: _ :: .for_ _ _ b :: _ => b
  | _ => []
noncomputable def waysI : List CS := match waysB with
  | _ :: .for_ _ _ b :: _ => b
  | _ => []
noncomputable def waysJ : List CS := match waysI with
  | _ :: .for_ _ _ b :: _ => b
  | _ => []
theorem pow7 {m : Nat} (h : m ≤ 7) : 7 ^ m ≤ 823543 := Nat.le_trans (Nat.pow_le_pow_right (by decide) h) (by decide)
theorem waysJ_ok {G : Fns} {S S1 : DStore} {l h p v : Int} {m c d : Nat} {ks : List (List L2.Key)} {kvs : List (List L2.Key × D)} {ws : List Int} {w : Int} {part part' : Int → Int → Int → Prop} {d0 d1 d2 d3 : D} {r4 r13 r14 : Option D} {Q : QE} {N bk ct : DEnv → DStore → Prop}
    (hm : m ≤ 6) (hc : c < 823543) (hl : ws.length = m) (hw : isWay l h p v ws) (hs : l ≤ w ∧ w ≤ h ∧ lastP v ws - p ≤ w ∧ w ≤ lastP v ws + p) (hd : S1[d]? = some (.dct kvs)) (hK : Kp S S1) (hS : S.length ≤ d) (P : WP l h p v m ks c part kvs) (hp : ∀ u L w', part' u L w' → part u L w' ∨ key2 w' (L + w') = key2 w (sumL ws + w))
    (hN : ∀ (r13 r14 : Option D) S' kvs, Kp S S' → S'[d]? = some (.dct kvs) → WP l h p v m ks (c + 1) part' kvs → N [some d0, some d1, some d2, some d3, r4, some (.int l), some (.int h), some (.int p), some (.ref d), some (.int (lastP v ws)), some (.int (sumL ws)), some (.tup (ws.map D.int)), some (.int w), r13, r14] S') :
    wpSs G waysJ [some d0, some d1, some d2, some d3, r4, some (.int l), some (.int h), some (.int p), some (.ref d), some (.int (lastP v ws)), some (.int (sumL ws)), some (.tup (ws.map D.int)), some (.int w), r13, r14] S1 ⟨N, Q, bk, ct⟩ := by
  have dl := (List.getElem?_eq_some_iff.mp hd).1
  have hput : ∀ (r13 r14 : Option D), N [some d0, some d1, some d2, some d3, r4, some (.int l), some (.int h), some (.int p), some (.ref d), some (.int (lastP v ws)), some (.int (sumL ws)), some (.tup (ws.map D.int)), some (.int w), r13, r14] (S1.set d (.dct (putD kvs (key2 w (sumL ws + w)) (.tup (ws.map D.int ++ [.int w]))))) := fun r13 r14 =>
    hN r13 r14 _ _ (kp_set hK hS) (List.getElem?_set_self dl) (P.put hl hw hs hp)
  show wpSs G [_, _] _ _ _
  simp_arith only []
  refine ⟨key2 w (sumL ws + w), rfl, by rw [List.length_map, hl]; exact len_le (by omega), ?_⟩
  simp only [q_notInK]
  refine ⟨kvs, dct_at hd, ?_⟩
  cases hv : valD kvs (key2 w (sumL ws + w)) with
  | none =>
    (try simp_arith only [Option.isSome_none])
    exact ⟨d, kvs, _, rfl, rfl, hd, len_lt (by have := P.len; omega), hput _ _⟩
  | some e =>
    obtain ⟨us, _, _, eq⟩ := P.all _ (valD_mem hv)
    have ee : e = .tup (us.map D.int) := congrArg Prod.snd eq
    subst ee
    (try simp_arith only [Option.isSome_some])
    refine ⟨kvs, _, dct_at hd, hv, ?_⟩
    rw [show ws.map D.int ++ [D.int w] = (ws ++ [w]).map D.int by rw [List.map_append]; rfl]
    refine gt_ints (if_i (fun _ => ?_) fun _ => ?_)
    · refine ⟨d, kvs, _, rfl, rfl, hd, len_lt (by have := P.len; omega), ?_⟩
      rw [List.map_append]
      exact hput _ _
    · refine hN _ _ _ _ hK hd (P.keep (by omega) fun u L w' h1 => (hp u L w' h1).imp id fun e => ?_)
      rw [e, hv]; rfl
theorem waysI_ok {G : Fns} {S S1 : DStore} {l h p v : Int} {m c d q r : Nat} {ks : List (List L2.Key)} {kvs kvs0 : List (List L2.Key × D)} {ws : List Int} {rs : List Nat} {d0 d1 d2 : D} {r4 r11 r12 r13 r14 : Option D} {Q : QE} {N bk ct : DEnv → DStore → Prop}
    (hm : m ≤ 6) (hc : c + 7 ≤ 823543) (hp3 : 1 ≤ p ∧ p ≤ 3) (hb : -1000 ≤ l ∧ h ≤ 1000) (hq : S1[q]? = some (.lst (rs.map D.ref ++ [.ref r]))) (hr : S1[r]? = some (.dct kvs0)) (hv : valD kvs0 (key2 (lastP v ws) (sumL ws)) = some (.tup (ws.map D.int))) (hl : ws.length = m) (hw : isWay l h p v ws) (hlv : l ≤ lastP v ws ∧ lastP v ws ≤ h) (hd : S1[d]? = some (.dct kvs)) (hK : Kp S S1) (hS : S.length ≤ d) (P : WP l h p v m ks c (fun _ _ _ => False) kvs)
    (hN : ∀ (r11 r12 r13 r14 : Option D) S' kvs, Kp S S' → S'[d]? = some (.dct kvs) → WP l h p v m (ks ++ [key2 (lastP v ws) (sumL ws)]) (c + 7) (fun _ _ _ => False) kvs → N [some d0, some d1, some d2, some (.ref q), r4, some (.int l), some (.int h), some (.int p), some (.ref d), some (.int (lastP v ws)), some (.int (sumL ws)), r11, r12, r13, r14] S') :
    wpSs G waysI [some d0, some d1, some d2, some (.ref q), r4, some (.int l), some (.int h), some (.int p), some (.ref d), some (.int (lastP v ws)), some (.int (sumL ws)), r11, r12, r13, r14] S1 ⟨N, Q, bk, ct⟩ := by
  show wpSs G [_, _] _ _ _
  have em : atI (rs.map D.ref ++ [D.ref r]) (-1) = some (.ref r) := by
    unfold atI ixN
    rw [if_neg (by decide), if_pos (by simp; omega)]
    simp only [List.length_append, List.length_map, List.length_cons, List.length_nil]
    rw [show ((-1 : Int) + ((rs.length + (0 + 1) : Nat) : Int)).toNat = rs.length by omega]
    show (rs.map D.ref ++ [D.ref r])[rs.length]? = some (.ref r)
    rw [List.getElem?_append_right (by simp)]; simp
  simp_arith only [hq, em]
  refine ⟨kvs0, key2 (lastP v ws) (sumL ws), _, dct_at hr, rfl, hv, ?_⟩
  rw [if_max, if_min]
  generalize hlo : max l (lastP v ws - p) = lo
  generalize hhi : min h (lastP v ws + p) = hi
  refine ⟨by constructor <;> omega, by constructor <;> omega, ?_⟩
  refine walk_range (fun i ρ S' => ∃ (r12 r13 r14 : Option D) (kvs : List (List L2.Key × D)), ρ = [some d0, some d1, some d2, some (.ref q), r4, some (.int l), some (.int h), some (.int p), some (.ref d), some (.int (lastP v ws)), some (.int (sumL ws)), some (.tup (ws.map D.int)), r12, r13, r14] ∧ Kp S S' ∧ S'[d]? = some (.dct kvs) ∧ WP l h p v m ks (c + i) (fun u L w => u = lastP v ws ∧ L = sumL ws ∧ (l ≤ w ∧ w ≤ h ∧ lastP v ws - p ≤ w ∧ w ≤ lastP v ws + p) ∧ w < lo + i) kvs) ⟨_, _, _, kvs, rfl, hK, hd, P.keep (by omega) fun u L w' h1 => absurd h1 (by omega)⟩ (fun _ _ _ _ => trivial) (fun i ρ S' hi hp => ?_) (fun ρ S' hp => ?_)
  · obtain ⟨r12, r13, r14, kvs, rfl, hK, hd, P⟩ := hp
    unfold DL.forTurn
    rw [g_name]
    simp only [List.set_cons_succ, List.set_cons_zero]
    refine waysJ_ok hm (by omega) hl hw (w := lo + (i : Int)) ⟨by omega, by omega, by omega, by omega⟩ hd hK hS P (part' := fun u L w => u = lastP v ws ∧ L = sumL ws ∧ (l ≤ w ∧ w ≤ h ∧ lastP v ws - p ≤ w ∧ w ≤ lastP v ws + p) ∧ w < lo + ((i + 1 : Nat) : Int)) (fun u L w' ⟨e1, e2, e3, e4⟩ => ?_) (fun r13 r14 S' kvs hK hd P => ⟨_, r13, r14, kvs, rfl, hK, hd, P⟩)
    by_cases e5 : w' < lo + i
    · exact .inl ⟨e1, e2, e3, e5⟩
    · have : w' = lo + i := by omega
      subst this e2
      exact .inr rfl
  · obtain ⟨r12, r13, r14, kvs, rfl, hK, hd, P⟩ := hp
    simp only [s_nilA]
    have P2 : WP l h p v m ks (c + 7) (fun u' L' w => u' = lastP v ws ∧ L' = sumL ws ∧ (l ≤ w ∧ w ≤ h ∧ lastP v ws - p ≤ w ∧ w ≤ lastP v ws + p)) kvs := P.keep (by omega) fun u L w' ⟨e1, e2, e3⟩ => .inl ⟨e1, e2, e3, by omega⟩
    exact hN _ _ _ _ _ kvs hK hd (P2.next fun _ _ _ => id)
/-- the dicts of so many beats -/
noncomputable def Founds (l h p v : Int) (S : DStore) (rs : List Nat) : Prop := ∀ (j : Nat) (r : Nat), rs[j]? = some r → ∃ kvs, S[r]? = some (.dct kvs) ∧ WD l h p v j kvs
theorem Founds.keep {l h p v : Int} {S S' : DStore} {rs : List Nat} (F : Founds l h p v S rs) (k : Kp S S') : Founds l h p v S' rs := fun j r hr => let ⟨kvs, a, b⟩ := F j r hr; ⟨kvs, k _ _ a, b⟩
theorem last_in {l h p : Int} : ∀ {ws : List Int} {v : Int}, isWay l h p v ws → l ≤ v ∧ v ≤ h → l ≤ lastP v ws ∧ lastP v ws ≤ h
  | [], v, _, hv => hv
  | w :: ws, v, hw, _ => last_in (ws := ws) hw.2 ⟨hw.1.1, hw.1.2.1⟩
theorem WD.at {l h p v : Int} {m : Nat} {kvs : List (List L2.Key × D)} (w : WD l h p v m kvs) {q : List L2.Key × D} (hq : q ∈ kvs) : ∃ ws : List Int, ws.length = m ∧ isWay l h p v ws ∧ q.1 = key2 (lastP v ws) (sumL ws) ∧ valD kvs q.1 = some (.tup (ws.map D.int)) := by
  obtain ⟨us, a, b, rfl⟩ := w.all q hq
  have hs := w.has _ _ ⟨us, a, b, rfl, rfl⟩
  obtain ⟨d, hd⟩ := Option.isSome_iff_exists.mp hs
  obtain ⟨ws, a', b', e⟩ := w.all _ (valD_mem hd)
  have e1 := congrArg Prod.fst e
  have e2 := congrArg Prod.snd e
  simp only at e1 e2
  subst e2
  exact ⟨ws, a', b', e1, hd⟩
theorem waysB_ok {G : Fns} {S S1 : DStore} {l h p v : Int} {m q : Nat} {rs : List Nat} {d0 d1 d2 : D} {r4 r8 r9 r10 r11 r12 r13 r14 : Option D} {Q : QE} {N bk ct : DEnv → DStore → Prop}
    (hm : m ≤ 6) (hp3 : 1 ≤ p ∧ p ≤ 3) (hb : -1000 ≤ l ∧ h ≤ 1000) (hv : l ≤ v ∧ v ≤ h) (hK : Kp S S1) (hS : S.length ≤ q) (hq : S1[q]? = some (.lst (rs.map D.ref))) (hl : rs.length = m + 1) (F : Founds l h p v S1 rs)
    (hN : ∀ (r8 r9 r10 r11 r12 r13 r14 : Option D) S' rs', Kp S S' → S'[q]? = some (.lst (rs'.map D.ref)) → rs'.length = m + 2 → Founds l h p v S' rs' → N [some d0, some d1, some d2, some (.ref q), r4, some (.int l), some (.int h), some (.int p), r8, r9, r10, r11, r12, r13, r14] S') :
    wpSs G waysB [some d0, some d1, some d2, some (.ref q), r4, some (.int l), some (.int h), some (.int p), r8, r9, r10, r11, r12, r13, r14] S1 ⟨N, Q, bk, ct⟩ := by
  obtain ⟨rs0, r, rfl, hl0⟩ : ∃ rs0 r, rs = rs0 ++ [r] ∧ rs0.length = m := ⟨rs.dropLast, rs.getLast (by intro e; subst e; simp at hl), (List.dropLast_concat_getLast _).symm, by simp [hl]⟩
  have em : atI (rs0.map D.ref ++ [D.ref r]) (-1) = some (.ref r) := by
    unfold atI ixN
    rw [if_neg (by decide), if_pos (by simp; omega)]
    simp only [List.length_append, List.length_map, List.length_cons, List.length_nil]
    rw [show ((-1 : Int) + ((rs0.length + (0 + 1) : Nat) : Int)).toNat = rs0.length by omega]
    show (rs0.map D.ref ++ [D.ref r])[rs0.length]? = some (.ref r)
    rw [List.getElem?_append_right (by simp)]; simp
  obtain ⟨kvs0, hr, W⟩ := F m r (by rw [List.getElem?_append_right (by omega), hl0, Nat.sub_self]; rfl)
  have h7 := pow7 (m := m) (by omega)
  have h7' := pow7 (m := m + 1) (by omega)
  have e7 : 7 ^ (m + 1) = 7 * 7 ^ m := by rw [Nat.pow_succ]; omega
  have lenK := W.len
  have hq1 : S1[q]? = some (.lst (rs0.map D.ref ++ [.ref r])) := by rw [hq, List.map_append]; rfl
  have hqS := (List.getElem?_eq_some_iff.mp hq).1
  have hr' := kp_app (cs := [Cell.dct []]) _ _ hr
  have hq' := kp_app (cs := [Cell.dct []]) _ _ hq1
  have hd' : (S1 ++ [Cell.dct []])[S1.length]? = some (.dct []) := by simp
  have hK' : Kp S1 (S1 ++ [Cell.dct []]) := kp_app
  show wpSs G [_, _, _] _ _ _
  simp_arith only [hq', em]
  generalize S1 ++ [Cell.dct []] = S2 at *
  generalize hdd : S1.length = d at *
  refine ⟨r, kvs0, rfl, dct_at hr', ?_⟩
  show wpWalk _ _ _ _ _ _
  refine walk_list (fun i ρ S' => ∃ (r9 r10 r11 r12 r13 r14 : Option D) (kvs : List (List L2.Key × D)), ρ = [some d0, some d1, some d2, some (.ref q), r4, some (.int l), some (.int h), some (.int p), some (.ref d), r9, r10, r11, r12, r13, r14] ∧ Kp S1 S' ∧ S'[d]? = some (.dct kvs) ∧ WP l h p v m ((kvs0.map (·.1)).take i) (7 * i) (fun _ _ _ => False) kvs) ⟨_, _, _, _, _, _, [], rfl, hK', hd', ⟨fun q hq => absurd hq (by simp), fun u L w h => absurd h (by simp), fun _ _ _ h => h.elim, Nat.le_refl _, List.nodup_nil⟩⟩ (fun _ _ _ _ => trivial) (fun i x ρ S' hx hp => ?_) (fun ρ S' hp => ?_)
  · obtain ⟨r9, r10, r11, r12, r13, r14, kvs, rfl, hK2, hd2, P⟩ := hp
    rw [List.getElem?_map] at hx
    obtain ⟨pr, hpr, rfl⟩ := Option.map_eq_some_iff.mp hx
    have hi := (List.getElem?_eq_some_iff.mp hpr).1
    obtain ⟨ws, hw1, hw2, ek, hv2⟩ := W.at (List.mem_of_getElem? hpr)
    rw [ek] at hv2
    have tk : (kvs0.map (·.1)).take (i + 1) = (kvs0.map (·.1)).take i ++ [key2 (lastP v ws) (sumL ws)] := by
      rw [List.take_add_one, List.getElem?_map, hpr, ← ek]; rfl
    unfold DL.forTurn
    rw [ek]
    simp only [key2, List.map_cons, List.map_nil, keyD, DL.g_tup, DL.u_tup, DL.gs_cons, DL.gs_nil, DL.g_name, List.set_cons_succ, List.set_cons_zero, List.length_cons, List.length_nil]
    refine ⟨trivial, ?_⟩
    refine waysI_ok (S := S1) (c := 7 * i) hm (by omega) hp3 hb (hK2 _ _ hq1) (hK2 _ _ hr) hv2 hw1 hw2 (last_in hw2 hv) hd2 hK2 (by omega) P (fun r11 r12 r13 r14 S3 kvs3 hK3 hd3 P3 => ⟨_, _, _, _, _, _, kvs3, rfl, hK3, hd3, ?_⟩)
    rw [tk]
    exact P3
  · obtain ⟨r9, r10, r11, r12, r13, r14, kvs, rfl, hK2, hd2, P⟩ := hp
    rw [List.length_map] at P
    rw [show (kvs0.map (·.1)).take kvs0.length = kvs0.map (·.1) from List.take_of_length_le (by simp)] at P
    have W2 := WP.full W P (by omega)
    have hq2 := hK2 _ _ hq1
    (try simp_arith only [])
    refine ⟨lat hq2, _, hq2, len_lt (by simp; omega), ?_⟩
    have hqd : q ≠ d := by omega
    refine hN _ _ _ _ _ _ _ _ (rs0 ++ [r] ++ [d]) (kp_set (hK.trans hK2) hS) ?_ (by simp; omega) (fun j r' hj => ?_)
    · rw [List.getElem?_set_self (List.getElem?_eq_some_iff.mp hq2).1]
      simp [List.map_append]
    · by_cases hjm : j < (rs0 ++ [r]).length
      · rw [List.getElem?_append_left hjm] at hj
        obtain ⟨kvs', a, b⟩ := F j r' hj
        have : r' ≠ q := fun e => by rw [e, hq] at a; cases a
        exact ⟨kvs', by rw [List.getElem?_set_ne (fun e => this e.symm)]; exact hK2 _ _ a, b⟩
      · have : j = m + 1 := by
          have := (List.getElem?_eq_some_iff.mp hj).1
          simp at this hjm; omega
        subst this
        rw [List.getElem?_append_right (by simp; omega)] at hj
        simp [hl0] at hj
        subst hj
        exact ⟨kvs, by rw [List.getElem?_set_ne hqd]; exact hd2, W2⟩
end DL
namespace DL
open PySem PySem.Spec PyProof.Rows L2
end DL
namespace DL
open PySem PySem.Spec PyProof.Rows L2
section
variable {l h p v z L : Int} {n : Nat}
theorem grt_neg : grt (-l) p (-v) (-z) n = -lea p l v z n := by rw [lea_neg]; omega
theorem lea_neg' : lea p (-h) (-v) (-z) n = -grt h p v z n := by rw [lea_neg]; simp only [Int.neg_neg]
theorem okN_neg : okNw (-h) (-l) p (-v) (-z) (-L) n ↔ okNw l h p v z L n := by
  unfold okNw
  rw [grt_neg, lea_neg']
  omega
theorem fewO_ok {m n : Nat} (e : fewO l h p v z L m = some n) : n ≤ m ∧ okNw l h p v z L n ∧ ∀ k, k < n → ¬ okNw l h p v z L k := by
  unfold fewO at e
  rw [List.find?_range_eq_some] at e
  obtain ⟨h1, h2, h3⟩ := e
  exact ⟨by have := List.mem_range.mp h2; omega, by simpa using h1, fun k hk => by simpa using h3 k hk⟩
noncomputable def Fe (l h p v z L : Int) (m : Nat) (w : Int) : Prop := (l ≤ w ∧ w ≤ h ∧ v - p ≤ w ∧ w ≤ v + p) ∧ okNw l h p w z (L - w) m
theorem Fe.mid {m : Nat} {w1 w2 w : Int} (h1 : Fe l h p v z L m w1) (h2 : Fe l h p v z L m w2) (a : w1 ≤ w) (b : w ≤ w2) : Fe l h p v z L m w := by
  obtain ⟨a1, b1, c1, d1, e1⟩ := h1
  obtain ⟨a2, b2, c2, d2, e2⟩ := h2
  have m1 := lea_mono (l := l) (p := p) b z m
  have m2 := grt_mono (h := h) (p := p) a z m
  exact ⟨by omega, by omega, by omega, by omega, by omega⟩
theorem Fe.neg {m : Nat} {w : Int} (f : Fe l h p v z L m w) : Fe (-h) (-l) p (-v) (-z) (-L) m (-w) := by
  refine ⟨by have := f.1; omega, ?_⟩
  rw [show -L - -w = -(L - w) by omega]
  exact okN_neg.mpr f.2
theorem absI_eq (w : Int) : absI w = w ∧ 0 ≤ w ∨ absI w = -w ∧ w < 0 := by unfold absI; split <;> omega
noncomputable def Nx (l h p v z L : Int) (m : Nat) (w : Int) : Prop := Fe l h p v z L m w ∧ ∀ w', Fe l h p v z L m w' → absI w ≤ absI w'
theorem Nx.uniq {m : Nat} {w w' : Int} (a : Nx l h p v z L m w) (b : Nx l h p v z L m w') : w = w' := by
  have h1 := a.2 w' b.1
  have h2 := b.2 w a.1
  have e1 := absI_eq w
  have e2 := absI_eq w'
  have e0 : absI 0 = 0 := rfl
  by_cases e : w = w'
  · exact e
  · exfalso
    rcases Int.lt_or_le w w' with c | c
    · have := a.2 0 (a.1.mid b.1 (by omega) (by omega))
      omega
    · have := a.2 0 (b.1.mid a.1 (by omega) (by omega))
      omega
theorem Nx.neg {m : Nat} {w : Int} (a : Nx l h p v z L m w) : Nx (-h) (-l) p (-v) (-z) (-L) m (-w) := by
  refine ⟨a.1.neg, fun w' f => ?_⟩
  have f' := f.neg
  simp only [Int.neg_neg] at f'
  have := a.2 _ f'
  have e1 := absI_eq w
  have e2 := absI_eq (-w)
  have e3 := absI_eq w'
  have e4 := absI_eq (-w')
  omega
theorem Fe.ex {m : Nat} (B : BdOk l h p v z) (ok : okNw l h p v z L (m + 1)) : ∃ w, Fe l h p v z L m w := by
  have r := (reach_iff B.p1 B.lz B.zh (m + 1) v L B.lv B.vh).mpr ok
  obtain ⟨w, hw, r⟩ := Reach.succ.mp r
  exact ⟨w, hw, (reach_iff B.p1 B.lz B.zh m w (L - w) hw.1 hw.2.1).mp r⟩
end
theorem itd_lst {S : DStore} {xs : List D} {R : RI} : itD S (.lst xs) R = R xs (fun _ => True) S := rfl
noncomputable def nextC (jw : Nat) : List CS := [.asg (.tup [(.name 7), (.name 8), (.name 9)]) (.var 0),
  .asg (.name 5) (.lrg false (.bi .max2 false [(.var 7), (.bin .Sub false (.var 1) (.var 9))]) (.bin .Add false (.bi .min2 false [(.var 8), (.bin .Add false (.var 1) (.var 9))]) (.con (.int 1)))),
  .for_ (.name 6) (.seq (.sortA false (.var 5))) [.if_ (.ccmp .Eq (.call jw [(.var 0), (.var 6), (.var 2), (.bin .Sub false (.var 3) (.var 6)), (.bin .Sub false (.var 4) (.con (.int 1)))]) (.con (.str ""))) [.ret (.var 6)] []],
  .never]
noncomputable def spNext (ds : List D) (S : DStore) (Q : QE) : Prop := ∃ l h p v z L : Int, ∃ m : Nat, ds = [bndD l h p, .int v, .int z, .int L, .int ((m : Int) + 1)] ∧ BdOk l h p v z ∧ h - l ≤ 1000 ∧ m ≤ 100000 ∧ okNw l h p v z L (m + 1) ∧ ∀ w, Nx l h p v z L m w → Q (.int w) S
theorem spNext_len : ∀ ds S Q, spNext ds S Q → ds.length = 5 := by rintro _ _ _ ⟨_, _, _, _, _, _, _, rfl, _⟩; rfl
theorem next_ok {G : Fns} {jw : Nat} (hw : G.fn jw = spWd) : ∀ ds S Q, spNext ds S Q → wpSs G (nextC jw) (startD 10 ds) S { nx := fun _ S' => Q .non S', rt := Q } := by
  rintro ds S Q ⟨l, h, p, v, z, L, m, rfl, B, hs, hm, ok, hQ⟩
  have := B.p1; have := B.p2; have := B.lv; have := B.vh; have := B.lz; have := B.zh; have := B.l9; have := B.h9
  unfold nextC bndD
  simp_arith only [e_lrg]
  have ea : (if v - p > l then v - p else l) = max l (v - p) := by split <;> omega
  have eb : (if v + p < h then v + p else h) = min h (v + p) := by split <;> omega
  rw [ea, eb]
  obtain ⟨a, rfl⟩ : ∃ a, a = max l (v - p) := ⟨_, rfl⟩
  have lenb : (min h (v + p) + 1 - max l (v - p)).toNat ≤ 1001 := by omega
  refine ⟨trivial, ⟨by omega, by omega⟩, ⟨by omega, by omega⟩, by omega, ?_⟩
  generalize hab : max l (v - p) = a at *
  generalize hbb : min h (v + p) + 1 = b at *
  rw [rangeD_eq]
  (try simp_arith only [e_sortA, itd_lst])
  refine ⟨rng a b, rfl, ?_⟩
  generalize hms : (rng a b).mergeSort (fun x y => decide (absI x ≤ absI y)) = ms
  have perm : ms.Perm (rng a b) := by rw [← hms]; exact List.mergeSort_perm _ _
  have pw : ms.Pairwise fun x y => absI x ≤ absI y := by
    have := List.pairwise_mergeSort (le := fun x y : Int => decide (absI x ≤ absI y)) (fun x y z h1 h2 => by simp only [decide_eq_true_eq] at *; omega) (fun x y => by simp only [Bool.or_eq_true, decide_eq_true_eq]; omega) (rng a b)
    rw [hms] at this
    exact this.imp fun h => of_decide_eq_true h
  have mem : ∀ w, w ∈ ms ↔ (l ≤ w ∧ w ≤ h ∧ v - p ≤ w ∧ w ≤ v + p) := fun w => by rw [perm.mem_iff, mem_rng]; omega
  refine walk_list (fun i ρ S' => ∃ r6, ρ = [some (.tup [.int l, .int h, .int p]), some (.int v), some (.int z), some (.int L), some (.int ((m : Int) + 1)), some (.lst ((rng a b).map D.int)), r6, some (.int l), some (.int h), some (.int p)] ∧ S' = S ∧ ∀ w ∈ ms.take i, ¬ Fe l h p v z L m w) ⟨_, rfl, rfl, by simp⟩ (fun _ _ _ _ => trivial) (fun i x ρ S' hx hp => ?_) (fun ρ S' hp => ?_)
  · obtain ⟨r6, rfl, rfl, hno⟩ := hp
    rw [List.getElem?_map] at hx
    obtain ⟨w, hw', rfl⟩ := Option.map_eq_some_iff.mp hx
    have wm := (mem w).mp (List.mem_of_getElem? hw')
    unfold DL.forTurn
    (try simp_arith only [hw])
    refine ⟨l, h, p, w, z, L - w, m, by rw [show (m : Int) + 1 - 1 = (m : Int) by omega]; rfl, ⟨B.p1, B.p2, by omega, by omega, B.lz, B.zh, B.l9, B.h9⟩, by omega, ?_⟩
    (try simp_arith only [])
    refine if_i (fun he => ?_) fun he => ?_
    · have hf : Fe l h p v z L m w := ⟨wm, (wd_iff _ _ _ _ _ _ _).mp he⟩
      refine hQ w ⟨hf, fun w' f => ?_⟩
      obtain ⟨j, hj, ej⟩ := List.getElem_of_mem ((mem w').mpr f.1)
      obtain ⟨hi, ei⟩ := List.getElem?_eq_some_iff.mp hw'
      rcases Nat.lt_trichotomy i j with c | c | c
      · have := (List.pairwise_iff_getElem.mp pw) i j hi hj c
        rw [ei, ej] at this
        exact this
      · subst c
        rw [ei] at ej
        rw [ej]; exact Int.le_refl _
      · exfalso
        refine hno w' ?_ f
        rw [← ej]
        exact List.mem_of_getElem? (i := j) (by rw [List.getElem?_take_of_lt c, List.getElem?_eq_getElem hj])
    · refine ⟨_, rfl, trivial, fun w' hw2 => ?_⟩
      rw [List.take_add_one, hw'] at hw2
      rcases List.mem_append.mp hw2 with z' | z'
      · exact hno w' z'
      · have : w' = w := by simpa using z'
        subst this
        exact fun f => he ((wd_iff _ _ _ _ _ _ _).mpr f.2)
  · obtain ⟨r6, rfl, rfl, hno⟩ := hp
    rw [List.length_map, List.take_length] at hno
    obtain ⟨w, f⟩ := Fe.ex B ok
    exact absurd f (hno w ((mem w).mpr f.1))
noncomputable def IsW (l h p z : Int) : Int → Int → List Int → Prop
  | _, _, [] => True
  | v, L, w :: ws => Nx l h p v z L ws.length w ∧ IsW l h p z w (L - w) ws
theorem IsW.uniq {l h p z : Int} : ∀ {ws ws' : List Int} {v L : Int}, IsW l h p z v L ws → IsW l h p z v L ws' → ws.length = ws'.length → ws = ws'
  | [], [], _, _, _, _, _ => rfl
  | [], _ :: _, _, _, _, _, e => by simp at e
  | _ :: _, [], _, _, _, _, e => by simp at e
  | w :: ws, w' :: ws', v, L, a, b, e => by
    have e' : ws.length = ws'.length := by simpa using e
    have a1 := a.1
    rw [e'] at a1
    obtain rfl := a1.uniq b.1
    rw [IsW.uniq a.2 b.2 e']
theorem IsW.neg {l h p z : Int} : ∀ {ws : List Int} {v L : Int}, IsW l h p z v L ws → IsW (-h) (-l) p (-z) (-v) (-L) (ws.map fun w => -w)
  | [], _, _, _ => trivial
  | w :: ws, v, L, a => by
    refine ⟨?_, ?_⟩
    · rw [List.length_map]; exact a.1.neg
    · have := IsW.neg a.2
      rwa [show -(L - w) = -L - -w by omega] at this
theorem IsW.bd {l h p z : Int} : ∀ {ws : List Int} {v L : Int}, IsW l h p z v L ws → ∀ w ∈ ws, l ≤ w ∧ w ≤ h
  | w :: ws, v, L, a, x, hx => by
    rcases List.mem_cons.mp hx with rfl | hx
    · exact ⟨a.1.1.1.1, a.1.1.1.2.1⟩
    · exact IsW.bd a.2 x hx
noncomputable def wayC (jw jn : Nat) : List CS := [.if_ (.ccmp .NotEq (.call jw [(.var 0), (.var 1), (.var 2), (.var 3), (.var 4)]) (.con (.str ""))) [.never] [],
  .asg (.name 5) (.lst true []),
  .for_ (.name 6) (.range3 (.var 4) (.con (.int 0)) (.neg (.con (.int 1)))) [.asg (.name 1) (.call jn [(.var 0), (.var 1), (.var 2), (.var 3), (.var 6)]),
    .aug 3 .Sub (.var 1),
    .append (.var 5) (.var 1)],
  .ret (.bi .tuple1 false [(.var 5)])]
noncomputable def spWay (ds : List D) (S : DStore) (Q : QE) : Prop := ∃ l h p v z L : Int, ∃ n : Nat, ds = [bndD l h p, .int v, .int z, .int L, .int (n : Int)] ∧ BdOk l h p v z ∧ h - l ≤ 1000 ∧ n ≤ 100000 ∧ okNw l h p v z L n ∧ ∀ ws S', ws.length = n → IsW l h p z v L ws → Kp S S' → Q (.tup (ws.map D.int)) S'
theorem spWay_len : ∀ ds S Q, spWay ds S Q → ds.length = 5 := by rintro _ _ _ ⟨_, _, _, _, _, _, _, rfl, _⟩; rfl
theorem way_ok {G : Fns} {jw jn : Nat} (hw : G.fn jw = spWd) (hn : G.fn jn = spNext) : ∀ ds S Q, spWay ds S Q → wpSs G (wayC jw jn) (startD 7 ds) S { nx := fun _ S' => Q .non S', rt := Q } := by
  rintro ds S Q ⟨l, h, p, v, z, L, n, rfl, B, hs, hm, ok, hQ⟩
  unfold wayC
  refine ss_split 1 (fun ρ S' => S' = S ∧ ρ = [some (bndD l h p), some (.int v), some (.int z), some (.int L), some (.int (n : Int)), none, none]) (fun N hN => ?_) ?_
  · show wpSs G [_] _ _ _
    simp_arith only [hw]
    refine ⟨l, h, p, v, z, L, n, rfl, B, by omega, ?_⟩
    have e : wdS l h p v z L n = "" := (wd_iff _ _ _ _ _ _ _).mpr ok
    rw [e]
    (try simp_arith only [])
    exact hN _ _ ⟨rfl, rfl⟩
  rintro ρ S1 ⟨rfl, rfl⟩
  show wpSs G [_, _, _] _ _ _
  simp_arith only []
  refine ⟨(n : Int), 0, -1, n, rfl, rfl, rfl, ?_, ?_⟩
  · have := RgC.neg (i := (n : Int)) (j := 0) (by omega) (by omega) (by omega) (by omega)
    rwa [show ((n : Int) - 0).toNat = n by omega] at this
  refine walk_list (fun i ρ S' => ∃ (v' L' : Int) (r6 : Option D) (us : List Int), ρ = [some (bndD l h p), some (.int v'), some (.int z), some (.int L'), some (.int (n : Int)), some (.ref S1.length), r6] ∧ Kp S1 S' ∧ S'[S1.length]? = some (.lst (us.map D.int)) ∧ us.length = i ∧ i ≤ n ∧ BdOk l h p v' z ∧ okNw l h p v' z L' (n - i) ∧ ∀ ws, ws.length = n - i → IsW l h p z v' L' ws → IsW l h p z v L (us ++ ws))
    ⟨v, L, none, [], rfl, kp_app, by simp, rfl, by omega, B, ok, fun ws _ h => h⟩ (fun _ _ _ _ => trivial) (fun i x ρ S' hx hp => ?_) (fun ρ S' hp => ?_)
  · obtain ⟨v', L', r6, us, rfl, hK, hq, hl, hin, B', ok', hall⟩ := hp
    have hi := (List.getElem?_eq_some_iff.mp hx).1
    unfold range3D at hi hx
    rw [List.length_map, List.length_range] at hi
    rw [List.getElem?_map, List.getElem?_range hi] at hx
    cases hx
    obtain ⟨m, hm'⟩ : ∃ m, n - i = m + 1 := ⟨n - i - 1, by omega⟩
    have en : (n : Int) + (i : Int) * -1 = (m : Int) + 1 := by omega
    unfold DL.forTurn
    (try simp_arith only [hn, en])
    rw [hm'] at ok'
    refine ⟨l, h, p, v', z, L', m, rfl, B', hs, by omega, ok', fun w hnx => ?_⟩
    have hw1 := hnx.1.1
    (try simp_arith only [])
    refine ⟨lat hq, _, hq, len_lt (by rw [List.length_map]; omega), ?_⟩
    refine ⟨w, L' - w, _, us ++ [w], rfl, kp_set hK (Nat.le_refl _), by rw [List.map_append]; exact set_get hq, by simp [hl], by omega, ⟨B.p1, B.p2, hw1.1, hw1.2.1, B.lz, B.zh, B.l9, B.h9⟩, by rw [show n - (i + 1) = m by omega]; exact hnx.1.2, fun ws hws hW => ?_⟩
    rw [List.append_assoc]
    refine hall _ (by simp; omega) ⟨?_, hW⟩
    show Nx l h p v' z L' ws.length w
    rw [hws, show n - (i + 1) = m by omega]
    exact hnx
  · obtain ⟨v', L', r6, us, rfl, hK, hq, hl, hin, B', ok', hall⟩ := hp
    unfold range3D at hl
    rw [List.length_map, List.length_range] at hl
    have hW := hall [] (by unfold range3D; rw [List.length_map, List.length_range]; simp) trivial
    rw [List.append_nil] at hW
    (try simp_arith only [hq])
    exact hQ us _ hl hW hK
end DL
namespace DL
open PySem PySem.Spec PyProof.Rows L2
noncomputable def rankI (w : Int) : Int := 2 * absI w - (if w > 0 then 1 else 0)
noncomputable def rks (ws : List Int) : List Int := ws.map rankI
theorem rank_inj {a b : Int} (h : rankI a = rankI b) : a = b := by
  unfold rankI at h
  have := absI_eq a
  have := absI_eq b
  split at h <;> split at h <;> omega
theorem rank_lt {a b : Int} (h : absI a < absI b) : rankI a < rankI b := by
  unfold rankI
  have := absI_eq a
  have := absI_eq b
  split <;> split <;> omega
theorem rks_inj : ∀ {a b : List Int}, rks a = rks b → a = b
  | [], [], _ => rfl
  | [], _ :: _, h => by cases h
  | _ :: _, [], h => by cases h
  | x :: a, y :: b, h => by
    unfold rks at h
    simp only [List.map_cons, List.cons.injEq] at h
    rw [rank_inj h.1, rks_inj (a := a) (b := b) h.2]
theorem rks_snoc {a : List Int} {w : Int} : rks (a ++ [w]) = rks a ++ [rankI w] := by unfold rks; simp
theorem rks_len {a : List Int} : (rks a).length = a.length := by unfold rks; simp
theorem lt_snocI {z : Int} : ∀ {a b : List Int}, a.length = b.length → (a ++ [z] < b ++ [z] ↔ a < b)
  | [], [], _ => ⟨fun h => absurd h (List.lt_irrefl _), fun h => absurd h (List.lt_irrefl _)⟩
  | [], _ :: _, h => by simp at h
  | _ :: _, [], h => by simp at h
  | x :: a, y :: b, h => by
    have ih := lt_snocI (z := z) (a := a) (b := b) (by simpa using h)
    rw [List.cons_append, List.cons_append, List.cons_lt_cons_iff, List.cons_lt_cons_iff, ih]
theorem le_snocI {a b : List Int} {w : Int} (hl : a.length = b.length) (h : rks a ≤ rks b) : rks (a ++ [w]) ≤ rks (b ++ [w]) := by
  rw [rks_snoc, rks_snoc]
  refine List.not_lt.mp fun q => ?_
  have := (lt_snocI (by rw [rks_len, rks_len, hl])).mp q
  exact absurd h (List.not_le.mpr this)
section
variable {l h p : Int}
/-- the greedy way is a way, and none goes less -/
theorem IsW.reach (hp : 1 ≤ p) {z : Int} (hz : l ≤ z) (hz' : z ≤ h) : ∀ {ws : List Int} {v L : Int}, l ≤ v → v ≤ h → okNw l h p v z L ws.length → IsW l h p z v L ws → isWay l h p v ws ∧ lastP v ws = z ∧ sumL ws = L
  | [], v, L, a, b, ok, _ => by
    obtain ⟨h1, h2⟩ := Reach.zero.mp ((reach_iff hp hz hz' 0 v L a b).mpr ok)
    exact ⟨trivial, h1, h2.symm⟩
  | w :: ws, v, L, a, b, ok, i => by
    obtain ⟨i1, i2⟩ := i
    have f := i1.1
    obtain ⟨r1, r2, r3⟩ := IsW.reach hp hz hz' f.1.1 f.1.2.1 f.2 i2
    exact ⟨⟨f.1, r1⟩, r2, by show w + sumL ws = L; omega⟩
theorem IsW.least (hp : 1 ≤ p) {z : Int} (hz : l ≤ z) (hz' : z ≤ h) : ∀ {ws us : List Int} {v L : Int}, l ≤ v → v ≤ h → IsW l h p z v L ws → us.length = ws.length → isWay l h p v us → lastP v us = z → sumL us = L → rks ws ≤ rks us
  | [], us, v, L, _, _, _, e, _, _, _ => by
    obtain rfl : us = [] := List.length_eq_zero_iff.mp (by simpa using e)
    exact List.le_refl _
  | w :: ws, [], v, L, _, _, _, e, _, _, _ => by simp at e
  | w :: ws, u :: us, v, L, a, b, i, e, hw, hl, hs => by
    obtain ⟨i1, i2⟩ := i
    obtain ⟨w1, w2⟩ := hw
    have e' : us.length = ws.length := by simpa using e
    have hl' : lastP u us = z := hl
    have hs' : sumL us = L - u := by have : u + sumL us = L := hs; omega
    have fu : Fe l h p v z L ws.length u := ⟨w1, (reach_iff hp hz hz' ws.length u (L - u) w1.1 w1.2.1).mp ⟨us, e', w2, hl', hs'⟩⟩
    have hle := i1.2 u fu
    by_cases q : w = u
    · subst q
      have ih := IsW.least hp hz hz' w1.1 w1.2.1 i2 e' w2 hl' hs'
      refine List.not_lt.mp fun c => ?_
      unfold rks at c
      rw [List.map_cons, List.map_cons, List.cons_lt_cons_iff] at c
      rcases c with c | ⟨_, c⟩
      · exact absurd c (Int.lt_irrefl _)
      · exact absurd ih (List.not_le.mpr c)
    · have hlt : absI w < absI u := by
        rcases Int.lt_or_le (absI w) (absI u) with c | c
        · exact c
        · exfalso
          refine q (i1.uniq ⟨fu, fun w' f => ?_⟩)
          have := i1.2 w' f
          omega
      have := rank_lt hlt
      refine List.not_lt.mp fun c => ?_
      unfold rks at c
      rw [List.map_cons, List.map_cons, List.cons_lt_cons_iff] at c
      rcases c with c | ⟨c, _⟩ <;> omega
end
theorem key2_inj' {z L z' L' : Int} (h : [Sum.inl z, Sum.inl L] = ([Sum.inl z', Sum.inl L'] : List L2.Key)) : z = z' ∧ L = L' := by
  simp only [List.cons.injEq, Sum.inl.injEq, and_true] at h
  exact h
noncomputable def kyW (v : Int) (ws : List Int) : List L2.Key := [.inl (lastP v ws), .inl (sumL ws)]
noncomputable def wayE (ws : List Int) : D := .tup [.tup ((rks ws).map D.int), .tup (ws.map D.int)]
theorem ints_inj : ∀ {a b : List Int}, a.map D.int = b.map D.int → a = b
  | [], [], _ => rfl
  | [], _ :: _, h => by cases h
  | _ :: _, [], h => by cases h
  | x :: a, y :: b, h => by
    simp only [List.map_cons, List.cons.injEq, D.int.injEq] at h
    rw [h.1, ints_inj h.2]
theorem wayE_inj {a b : List Int} (h : wayE a = wayE b) : a = b := by
  unfold wayE at h
  simp only [D.tup.injEq, List.cons.injEq, and_true] at h
  exact ints_inj h.2
theorem way_snocI {l h p : Int} : ∀ (ws : List Int) (v w : Int), isWay l h p v (ws ++ [w]) ↔ isWay l h p v ws ∧ (l ≤ w ∧ w ≤ h ∧ lastP v ws - p ≤ w ∧ w ≤ lastP v ws + p)
  | [], v, w => ⟨fun h => ⟨trivial, h.1⟩, fun h => ⟨h.2, trivial⟩⟩
  | u :: ws, v, w => ⟨fun h => ⟨⟨h.1, ((way_snocI ws u w).mp h.2).1⟩, ((way_snocI ws u w).mp h.2).2⟩, fun h => ⟨h.1.1, (way_snocI ws u w).mpr ⟨h.1.2, h.2⟩⟩⟩
theorem last_snocI : ∀ (ws : List Int) (v w : Int), lastP v (ws ++ [w]) = w
  | [], _, _ => rfl
  | u :: ws, v, w => last_snocI ws u w
theorem sum_snocI : ∀ (ws : List Int) (w : Int), sumL (ws ++ [w]) = sumL ws + w
  | [], w => by show w + 0 = 0 + w; omega
  | u :: ws, w => by show u + sumL (ws ++ [w]) = u + sumL ws + w; rw [sum_snocI ws w]; omega
theorem kyW_snoc {v : Int} {ws : List Int} {w : Int} : kyW v (ws ++ [w]) = [.inl w, .inl (sumL ws + w)] := by unfold kyW; rw [last_snocI, sum_snocI]
theorem nodup_putI {kvs : List (List L2.Key × D)} {k : List L2.Key} {d : D} (h : (kvs.map (·.1)).Nodup) : ((putD kvs k d).map (·.1)).Nodup := by
  unfold putD
  split
  · rw [List.map_map]
    have : ((fun q : List L2.Key × D => q.1) ∘ fun kv => if kv.1 = k then (kv.1, d) else kv) = fun q => q.1 := by
      funext q
      simp only [Function.comp]
      split <;> rfl
    rw [this]; exact h
  · rename_i hn
    rw [List.map_append, List.nodup_append]
    refine ⟨h, by simp, fun a ha b hb => ?_⟩
    simp only [List.map_cons, List.map_nil, List.mem_cons, List.not_mem_nil, or_false] at hb
    subst hb
    rintro rfl
    obtain ⟨q, hq, rfl⟩ := List.mem_map.mp ha
    exact hn (List.any_eq_true.mpr ⟨q, hq, by simp⟩)
/-- of so many beats: each entry a way, of each way's end the entry goes least -/
structure RD (l h p v : Int) (m : Nat) (kvs : List (List L2.Key × D)) : Prop where
  all : ∀ q ∈ kvs, ∃ ws : List Int, ws.length = m ∧ isWay l h p v ws ∧ q = (kyW v ws, wayE ws)
  low : ∀ us : List Int, us.length = m → isWay l h p v us → ∃ ws, valD kvs (kyW v us) = some (wayE ws) ∧ rks ws ≤ rks us
  len : kvs.length ≤ 7 ^ m
  nd : (kvs.map (·.1)).Nodup
theorem RD.zero (l h p v : Int) : RD l h p v 0 [(kyW v [], wayE [])] := by
  refine ⟨fun q hq => ?_, fun us hl _ => ?_, by simp, by simp⟩
  · simp only [List.mem_cons, List.not_mem_nil, or_false] at hq
    exact ⟨[], rfl, trivial, hq⟩
  · obtain rfl : us = [] := List.length_eq_zero_iff.mp hl
    exact ⟨[], by simp [valD], List.le_refl _⟩
/-- a new dict: what was gone through, R, is in it -/
structure RP (l h p v : Int) (m c : Nat) (R : List Int → Int → Prop) (kvs : List (List L2.Key × D)) : Prop where
  all : ∀ q ∈ kvs, ∃ ws : List Int, ws.length = m + 1 ∧ isWay l h p v ws ∧ q = (kyW v ws, wayE ws)
  low : ∀ us w, R us w → ∃ ws, valD kvs (kyW v (us ++ [w])) = some (wayE ws) ∧ rks ws ≤ rks (us ++ [w])
  len : kvs.length ≤ c
  nd : (kvs.map (·.1)).Nodup
theorem RP.put {l h p v : Int} {m c : Nat} {R R' : List Int → Int → Prop} {kvs : List (List L2.Key × D)} (P : RP l h p v m c R kvs) {ws : List Int} {w : Int} (hl : ws.length = m) (hw : isWay l h p v ws) (hs : l ≤ w ∧ w ≤ h ∧ lastP v ws - p ≤ w ∧ w ≤ lastP v ws + p)
    (ho : ∀ us, valD kvs (kyW v (ws ++ [w])) = some (wayE us) → rks (ws ++ [w]) ≤ rks us) (hp : ∀ u w', R' u w' → R u w' ∨ (u = ws ∧ w' = w)) : RP l h p v m (c + 1) R' (putD kvs (kyW v (ws ++ [w])) (wayE (ws ++ [w]))) := by
  refine ⟨fun q hq => ?_, fun u w' h1 => ?_, ?_, nodup_putI P.nd⟩
  · rcases mem_put hq with rfl | hq
    · exact ⟨ws ++ [w], by simp [hl], (way_snocI ws v w).mpr ⟨hw, hs⟩, rfl⟩
    · exact P.all q hq
  · rw [valD_put]
    rcases hp u w' h1 with h3 | ⟨rfl, rfl⟩
    · obtain ⟨x, hx, hr⟩ := P.low u w' h3
      split
      · rename_i e
        rw [e] at hx
        exact ⟨_, rfl, List.le_trans (ho x hx) hr⟩
      · exact ⟨x, hx, hr⟩
    · rw [if_pos rfl]
      exact ⟨_, rfl, List.le_refl _⟩
  · have := len_put (kvs := kvs) (k := kyW v (ws ++ [w])) (d := wayE (ws ++ [w]))
    have := P.len
    omega
theorem RP.keep {l h p v : Int} {m c c' : Nat} {R R' : List Int → Int → Prop} {kvs : List (List L2.Key × D)} (P : RP l h p v m c R kvs) (hc : c ≤ c') (hp : ∀ u w', R' u w' → R u w' ∨ ∃ ws, valD kvs (kyW v (u ++ [w'])) = some (wayE ws) ∧ rks ws ≤ rks (u ++ [w'])) : RP l h p v m c' R' kvs :=
  ⟨P.all, fun u w' h => (hp u w' h).elim (P.low u w') id, Nat.le_trans P.len hc, P.nd⟩
/-- the entries' ways, in order -/
theorem ways_of {v : Int} {P : List Int → Prop} : ∀ {kvs : List (List L2.Key × D)}, (∀ q ∈ kvs, ∃ ws, P ws ∧ q = (kyW v ws, wayE ws)) → ∃ pre : List (List Int), kvs = pre.map (fun ws => (kyW v ws, wayE ws)) ∧ ∀ ws ∈ pre, P ws
  | [], _ => ⟨[], rfl, fun _ h => nomatch h⟩
  | q :: kvs, hq => by
    obtain ⟨ws, a, rfl⟩ := hq q (List.mem_cons_self ..)
    obtain ⟨pre, e, b⟩ := ways_of (fun q h => hq q (List.mem_cons_of_mem _ h))
    refine ⟨ws :: pre, by rw [e]; rfl, fun x hx => ?_⟩
    rcases List.mem_cons.mp hx with rfl | hx
    · exact a
    · exact b x hx
theorem RP.full {l h p v : Int} {m c : Nat} {kvs : List (List L2.Key × D)} {pre : List (List Int)} (w0 : RD l h p v m (pre.map fun ws => (kyW v ws, wayE ws))) (P : RP l h p v m c (fun us w => us ∈ pre ∧ (l ≤ w ∧ w ≤ h ∧ lastP v us - p ≤ w ∧ w ≤ lastP v us + p)) kvs) (hc : c ≤ 7 ^ (m + 1)) : RD l h p v (m + 1) kvs := by
  refine ⟨P.all, fun xs hl hx => ?_, Nat.le_trans P.len hc, P.nd⟩
  obtain ⟨us, w, rfl, hu⟩ : ∃ us w, xs = us ++ [w] ∧ us.length = m := by
    have hne : xs ≠ [] := by intro e; subst e; simp at hl
    exact ⟨xs.dropLast, xs.getLast hne, (List.dropLast_concat_getLast hne).symm, by simp [hl]⟩
  obtain ⟨hw1, hw2⟩ := (way_snocI us v w).mp hx
  obtain ⟨ws, e, hr⟩ := w0.low us hu hw1
  have hm := valD_mem e
  obtain ⟨y, hy, ey⟩ := List.mem_map.mp hm
  have e1 := congrArg Prod.fst ey
  have e2 := wayE_inj (congrArg Prod.snd ey)
  subst e2
  obtain ⟨k1, k2⟩ := key2_inj' e1
  obtain ⟨_, yl, _, ey2⟩ := w0.all _ hm
  have yl2 : y.length = m := by rw [wayE_inj (congrArg Prod.snd ey2)]; exact yl
  obtain ⟨ws2, e3, hr2⟩ := P.low y w ⟨hy, by rw [k1]; exact hw2⟩
  refine ⟨ws2, ?_, List.le_trans hr2 (le_snocI (by rw [yl2, hu]) hr)⟩
  rw [← e3, kyW_snoc, kyW_snoc, k2]
/-- what the dict tells of an end is what goes least -/
theorem RD.is {l h p v : Int} {m : Nat} {kvs : List (List L2.Key × D)} (w : RD l h p v m kvs) (hp : 1 ≤ p) {z L : Int} (hv : l ≤ v ∧ v ≤ h) (hz : l ≤ z ∧ z ≤ h) {ws : List Int} (hl : ws.length = m) (i : IsW l h p z v L ws) (ok : okNw l h p v z L m) : valD kvs [.inl z, .inl L] = some (wayE ws) := by
  subst hl
  obtain ⟨r1, r2, r3⟩ := i.reach hp hz.1 hz.2 hv.1 hv.2 ok
  obtain ⟨us, e, hr⟩ := w.low ws rfl r1
  have ek : kyW v ws = [.inl z, .inl L] := by unfold kyW; rw [r2, r3]
  rw [ek] at e
  obtain ⟨xs, xl, xw, ex⟩ := w.all _ (valD_mem e)
  have e1 := congrArg Prod.fst ex
  have e2 := wayE_inj (congrArg Prod.snd ex)
  subst e2
  obtain ⟨k1, k2⟩ := key2_inj' e1
  have hr2 := i.least hp hz.1 hz.2 hv.1 hv.2 xl xw k1.symm k2.symm
  have : rks us = rks ws := List.le_antisymm hr hr2
  rw [e, rks_inj this]
theorem RD.no {l h p v : Int} {m : Nat} {kvs : List (List L2.Key × D)} (w : RD l h p v m kvs) (hp : 1 ≤ p) {z L : Int} (hv : l ≤ v ∧ v ≤ h) (hz : l ≤ z ∧ z ≤ h) (no : ¬ okNw l h p v z L m) : valD kvs [.inl z, .inl L] = none := by
  cases e : valD kvs [.inl z, .inl L] with
  | none => rfl
  | some d =>
    exfalso
    obtain ⟨xs, xl, xw, ex⟩ := w.all _ (valD_mem e)
    obtain ⟨k1, k2⟩ := key2_inj' (congrArg Prod.fst ex)
    exact no ((reach_iff hp hz.1 hz.2 m v L hv.1 hv.2).mp ⟨xs, xl, xw, k1.symm, k2.symm⟩)
end DL
namespace Law_k28
open PySem PySem.Spec PyProof.Rows L2 DL
noncomputable def topS (i : Nat) : Stmt := PySem.Challenge.pw_drivenwheels_k28_the_told_way.main.body.getD i (.Pass ⟨0, 0, 0, 0⟩)
noncomputable abbrev s0 : Stmt := topS 9
noncomputable def n0 : List Str := ["pace", "push", "many", "high", "free"]
noncomputable def p0 : List Str := ["pace", "push", "many", "high"]
theorem sc0 : FnScope n0 p0 (L2.defScope s0) := ⟨rfl, rfl, rfl, by decide +kernel, rfl, by decide +kernel, by decide +kernel⟩
/-- rising -/
noncomputable def c0 : List CS := [.asg (.name 4) (.bi .min2 false [(.var 2), (.bin .FloorDiv false (.bin .Sub false (.var 3) (.var 0)) (.var 1))]),
  .ret (.bin .Add false (.bin .Add false (.bin .Mult false (.var 4) (.var 0)) (.bin .FloorDiv false (.bin .Mult false (.bin .Mult false (.var 1) (.var 4)) (.bin .Add false (.var 4) (.con (.int 1)))) (.con (.int 2)))) (.bin .Mult false (.bin .Sub false (.var 2) (.var 4)) (.var 3)))]
noncomputable abbrev s1 : Stmt := topS 10
noncomputable def n1 : List Str := ["high", "push", "begin", "end", "many", "turn"]
noncomputable def p1 : List Str := ["high", "push", "begin", "end", "many"]
theorem sc1 : FnScope n1 p1 (L2.defScope s1) := ⟨rfl, rfl, rfl, by decide +kernel, rfl, by decide +kernel, by decide +kernel⟩
/-- greatest -/
noncomputable def c1 : List CS := [.asg (.name 5) (.bin .FloorDiv false (.bin .Add false (.bin .Sub false (.var 3) (.var 2)) (.bin .Mult false (.var 4) (.var 1))) (.bin .Mult false (.con (.int 2)) (.var 1))),
  .if_ (.ccmp .Eq (.var 5) (.var 4)) [.ret (.call 0 [(.var 2), (.var 1), (.var 4), (.var 0)])] [],
  .ret (.bin .Add false (.bin .Add false (.call 0 [(.var 2), (.var 1), (.var 5), (.var 0)]) (.var 3)) (.call 0 [(.var 3), (.var 1), (.bin .Sub false (.bin .Sub false (.var 4) (.var 5)) (.con (.int 1))), (.var 0)]))]
noncomputable abbrev s2 : Stmt := topS 11
noncomputable def n2 : List Str := ["bounds", "v", "z", "n", "low", "high", "push"]
noncomputable def p2 : List Str := ["bounds", "v", "z", "n"]
theorem sc2 : FnScope n2 p2 (L2.defScope s2) := ⟨rfl, rfl, rfl, by decide +kernel, rfl, by decide +kernel, by decide +kernel⟩
/-- spread -/
noncomputable def c2 : List CS := [.asg (.tup [(.name 4), (.name 5), (.name 6)]) (.var 0),
  .if_ (.ccmp .Gt (.bi .abs false [(.bin .Sub false (.var 2) (.var 1))]) (.bin .Mult false (.var 3) (.var 6))) [.ret (.con .non)] [],
  .ret (.tup [(.neg (.call 1 [(.neg (.var 4)), (.var 6), (.neg (.var 1)), (.neg (.var 2)), (.var 3)])), (.call 1 [(.var 5), (.var 6), (.var 1), (.var 2), (.var 3)])])]
noncomputable abbrev s3 : Stmt := topS 12
noncomputable def n3 : List Str := ["bounds", "v", "z", "length", "n", "lengths", "least", "most"]
noncomputable def p3 : List Str := ["bounds", "v", "z", "length", "n"]
theorem sc3 : FnScope n3 p3 (L2.defScope s3) := ⟨rfl, rfl, rfl, by decide +kernel, rfl, by decide +kernel, by decide +kernel⟩
/-- word_at -/
noncomputable def c3 : List CS := [.asg (.name 5) (.call 2 [(.var 0), (.var 1), (.var 2), (.var 4)]),
  .if_ (.ccmp .Is (.var 5) (.con .non)) [.ret (.con (.str "turn"))] [],
  .asg (.tup [(.name 6), (.name 7)]) (.var 5),
  .if_ (.ccmp .Gt (.var 3) (.var 7)) [.ret (.con (.str "far"))] [],
  .ret (.ite (.ccmp .Lt (.var 3) (.var 6)) (.con (.str "near")) (.con (.str "")))]
noncomputable abbrev s4 : Stmt := topS 13
noncomputable def n4 : List Str := ["bounds", "v", "z", "length", "n", "some", "pace", "low", "high", "push"]
noncomputable def p4 : List Str := ["bounds", "v", "z", "length", "n"]
theorem sc4 : FnScope n4 p4 (L2.defScope s4) := ⟨rfl, rfl, rfl, by decide +kernel, rfl, by decide +kernel, by decide +kernel⟩
/-- next_pace -/
noncomputable def c4 : List CS := [.asg (.tup [(.name 7), (.name 8), (.name 9)]) (.var 0),
  .asg (.name 5) (.lrg false (.bi .max2 false [(.var 7), (.bin .Sub false (.var 1) (.var 9))]) (.bin .Add false (.bi .min2 false [(.var 8), (.bin .Add false (.var 1) (.var 9))]) (.con (.int 1)))),
  .for_ (.name 6) (.seq (.sortA false (.var 5))) [.if_ (.ccmp .Eq (.call 3 [(.var 0), (.var 6), (.var 2), (.bin .Sub false (.var 3) (.var 6)), (.bin .Sub false (.var 4) (.con (.int 1)))]) (.con (.str ""))) [.ret (.var 6)] []],
  .never]
noncomputable abbrev s5 : Stmt := topS 14
noncomputable def n5 : List Str := ["bounds", "v", "z", "length", "n", "paces", "left"]
noncomputable def p5 : List Str := ["bounds", "v", "z", "length", "n"]
theorem sc5 : FnScope n5 p5 (L2.defScope s5) := ⟨rfl, rfl, rfl, by decide +kernel, rfl, by decide +kernel, by decide +kernel⟩
/-- way -/
noncomputable def c5 : List CS := [.if_ (.ccmp .NotEq (.call 3 [(.var 0), (.var 1), (.var 2), (.var 3), (.var 4)]) (.con (.str ""))) [.never] [],
  .asg (.name 5) (.lst true []),
  .for_ (.name 6) (.range3 (.var 4) (.con (.int 0)) (.neg (.con (.int 1)))) [.asg (.name 1) (.call 4 [(.var 0), (.var 1), (.var 2), (.var 3), (.var 6)]),
    .aug 3 .Sub (.var 1),
    .append (.var 5) (.var 1)],
  .ret (.bi .tuple1 false [(.var 5)])]
noncomputable abbrev s6 : Stmt := topS 16
noncomputable def n6 : List Str := ["_law_script", "_law_k", "_law_cell", "_law_great"]
noncomputable def p6 : List Str := ["_law_script", "_law_k"]
theorem sc6 : FnScope n6 p6 (L2.defScope s6) := ⟨rfl, rfl, rfl, by decide +kernel, rfl, by decide +kernel, by decide +kernel⟩
/-- _law_hand -/
noncomputable def c6 : List CS := [.asg (.name 2) (.ite (.ccmp .Lt (.var 1) (.bi .len false [(.var 0)])) (.ix (.var 0) (.var 1)) (.con (.int 0))),
  .asg (.name 3) (.ite (.ccmp .GtE (.bi .abs false [(.var 2)]) (.bin .Pow false (.con (.int 10)) (.con (.int 18)))) (.bin .Mod false (.bi .abs false [(.var 2)]) (.bin .Mult false (.bin .Mult false (.bin .Pow false (.con (.int 10)) (.con (.int 60))) (.bin .Pow false (.con (.int 10)) (.con (.int 60)))) (.bin .Pow false (.con (.int 10)) (.con (.int 60))))) (.con (.int 0))),
  .ret (.lst true [(.var 3), (.bin .Mod false (.bin .Add false (.bin .Add false (.bin .Mult false (.bin .Mod false (.var 2) (.con (.int 2305843009213693951))) (.con (.int 1000033))) (.bin .Mult false (.con (.int 6857)) (.var 1))) (.con (.int 41))) (.con (.int 2305843009213693921))), (.con (.int 0))])]
noncomputable abbrev s7 : Stmt := topS 17
noncomputable def n7 : List Str := ["_law_hand_here", "_law_many", "_law_turn", "_law_one", "_law_two", "_law_mixed", "_law_last", "_law_digit"]
noncomputable def p7 : List Str := ["_law_hand_here", "_law_many"]
theorem sc7 : FnScope n7 p7 (L2.defScope s7) := ⟨rfl, rfl, rfl, by decide +kernel, rfl, by decide +kernel, by decide +kernel⟩
/-- _law_take -/
noncomputable def c7 : List CS := [.if_ (.ccmp .Gt (.ix (.var 0) (.con (.int 0))) (.con (.int 0))) [.asg (.name 7) (.bin .Mod false (.ix (.var 0) (.con (.int 0))) (.var 1)),
    .asg (.sub (.var 0) (.con (.int 0))) (.bin .FloorDiv false (.ix (.var 0) (.con (.int 0))) (.var 1)),
    .ret (.var 7)] [],
  .asg (.name 2) (.bin .Add false (.ix (.var 0) (.con (.int 2))) (.con (.int 1))),
  .asg (.sub (.var 0) (.con (.int 2))) (.var 2),
  .asg (.name 3) (.bin .Add false (.ix (.var 0) (.con (.int 1))) (.bin .Mult false (.con (.int 15485867)) (.var 2))),
  .asg (.name 4) (.bin .Add false (.bin .Add false (.bin .Mod false (.ix (.var 0) (.con (.int 1))) (.con (.int 7907))) (.bin .Mult false (.con (.int 32452867)) (.var 2))) (.con (.int 19))),
  .asg (.name 5) (.bin .Mod false (.bin .Mult false (.var 3) (.var 4)) (.con (.int 2305843009213693951))),
  .asg (.name 6) (.bin .Add false (.bin .Add false (.bin .Mod false (.var 5) (.con (.int 1000003))) (.bin .Mult false (.con (.int 6700441)) (.var 2))) (.con (.int 7))),
  .ret (.bin .Mod false (.bin .FloorDiv false (.bin .Mod false (.bin .Mult false (.bin .Add false (.var 5) (.con (.int 11))) (.var 6)) (.con (.int 2305843009213693907))) (.con (.int 64))) (.var 1))]
noncomputable abbrev s8 : Stmt := topS 18
noncomputable def n8 : List Str := ["_law_hand_here", "_law_most", "_law_push", "_law_low", "_law_high"]
noncomputable def p8 : List Str := ["_law_hand_here", "_law_most"]
theorem sc8 : FnScope n8 p8 (L2.defScope s8) := ⟨rfl, rfl, rfl, by decide +kernel, rfl, by decide +kernel, by decide +kernel⟩
/-- _law_case -/
noncomputable def c8 : List CS := [.par2 3 4 (.bin .Sub false (.con (.int 0)) (.call 7 [(.var 0), (.bin .Add false (.var 1) (.con (.int 1)))])) (.call 7 [(.var 0), (.bin .Add false (.var 1) (.con (.int 1)))]),
  .asg (.name 2) (.bin .Add false (.con (.int 1)) (.call 7 [(.var 0), (.con (.int 3))])),
  .ret (.tup [(.tup [(.var 3), (.var 4), (.var 2)]), (.bin .Add false (.var 3) (.call 7 [(.var 0), (.bin .Add false (.bin .Sub false (.var 4) (.var 3)) (.con (.int 1)))])), (.bin .Add false (.var 3) (.call 7 [(.var 0), (.bin .Add false (.bin .Sub false (.var 4) (.var 3)) (.con (.int 1)))]))])]
noncomputable abbrev s9 : Stmt := topS 19
noncomputable def n9 : List Str := ["_law_pace"]
noncomputable def p9 : List Str := ["_law_pace"]
theorem sc9 : FnScope n9 p9 (L2.defScope s9) := ⟨rfl, rfl, rfl, by decide +kernel, rfl, by decide +kernel, by decide +kernel⟩
/-- _law_rank -/
noncomputable def c9 : List CS := [.ret (.bin .Sub false (.bin .Mult false (.con (.int 2)) (.bi .abs false [(.var 0)])) (.bi .int1 false [(.cmp .Gt (.var 0) (.con (.int 0)))]))]
noncomputable abbrev s10 : Stmt := topS 20
noncomputable def n10 : List Str := ["_law_edges", "_law_first", "_law_many", "_law_found", "_law_beat", "_law_low", "_law_high", "_law_push", "_law_here", "_law_pace", "_law_far_off", "_law_other", "_law_ranks", "_law_told_here", "_law_spot", "_law_one"]
noncomputable def p10 : List Str := ["_law_edges", "_law_first", "_law_many"]
theorem sc10 : FnScope n10 p10 (L2.defScope s10) := ⟨rfl, rfl, rfl, by decide +kernel, rfl, by decide +kernel, by decide +kernel⟩
/-- _law_ways -/
noncomputable def c10 : List CS := [.asg (.tup [(.name 5), (.name 6), (.name 7)]) (.var 0),
  .asg (.name 3) (.lst true [(.dnew1 [(.var 1), (.con (.int 0))] (.tup [(.tup []), (.tup [])]))]),
  .for_ (.name 4) (.range1 (.var 2)) [.asg (.name 8) .dnew,
    .for_ (.tup [(.name 9), (.name 10)]) (.seq (.bi .listD false [(.ix (.var 3) (.neg (.con (.int 1))))])) [.asg (.tup [(.name 12), (.name 13)]) (.ix (.ix (.var 3) (.neg (.con (.int 1)))) (.tup [(.var 9), (.var 10)])),
    .for_ (.name 11) (.range2 (.bi .max2 false [(.var 5), (.bin .Sub false (.var 9) (.var 7))]) (.bin .Add false (.bi .min2 false [(.var 6), (.bin .Add false (.var 9) (.var 7))]) (.con (.int 1)))) [.par2 14 15 (.ktup [(.var 11), (.bin .Add false (.var 10) (.var 11))]) (.tup [(.bin .Add false (.var 12) (.tup [(.call 9 [(.var 11)])])), (.bin .Add false (.var 13) (.tup [(.var 11)]))]),
    .if_ (.cor (.ccmp .NotIn (.var 14) (.var 8)) (.ccmp .Lt (.var 15) (.ix (.var 8) (.var 14)))) [.asg (.ksub (.var 8) (.var 14)) (.var 15)] []]],
    .append (.var 3) (.var 8)],
  .ret (.var 3)]
noncomputable abbrev s11 : Stmt := topS 21
noncomputable def n11 : List Str := ["_law_edges", "_law_first", "_law_last", "_law_many", "_law_beat", "_law_low", "_law_high", "_law_push", "_law_least", "_law_most"]
noncomputable def p11 : List Str := ["_law_edges", "_law_first", "_law_last", "_law_many"]
theorem sc11 : FnScope n11 p11 (L2.defScope s11) := ⟨rfl, rfl, rfl, by decide +kernel, rfl, by decide +kernel, by decide +kernel⟩
/-- _law_lengths -/
noncomputable def c11 : List CS := [.asg (.tup [(.name 5), (.name 6), (.name 7)]) (.var 0),
  .if_ (.ccmp .Gt (.bi .abs false [(.bin .Sub false (.var 2) (.var 1))]) (.bin .Mult false (.var 3) (.var 7))) [.ret (.con .non)] [],
  .asg (.tup [(.name 8), (.name 9)]) (.tup [(.con (.int 0)), (.con (.int 0))]),
  .for_ (.name 4) (.range2 (.con (.int 1)) (.bin .Add false (.var 3) (.con (.int 1)))) [.asg (.name 9) (.bin .Add false (.var 9) (.bi .min3 false [(.var 6), (.bin .Add false (.var 1) (.bin .Mult false (.var 4) (.var 7))), (.bin .Add false (.var 2) (.bin .Mult false (.bin .Sub false (.var 3) (.var 4)) (.var 7)))])),
    .asg (.name 8) (.bin .Add false (.var 8) (.bi .max3 false [(.var 5), (.bin .Sub false (.var 1) (.bin .Mult false (.var 4) (.var 7))), (.bin .Sub false (.var 2) (.bin .Mult false (.bin .Sub false (.var 3) (.var 4)) (.var 7)))]))],
  .ret (.tup [(.var 8), (.var 9)])]
noncomputable abbrev s12 : Stmt := topS 22
noncomputable def n12 : List Str := ["_law_edges", "_law_first", "_law_last", "_law_far_off", "_law_many", "_law_two"]
noncomputable def p12 : List Str := ["_law_edges", "_law_first", "_law_last", "_law_far_off", "_law_many"]
theorem sc12 : FnScope n12 p12 (L2.defScope s12) := ⟨rfl, rfl, rfl, by decide +kernel, rfl, by decide +kernel, by decide +kernel⟩
/-- _law_word -/
noncomputable def c12 : List CS := [.asg (.name 5) (.call 11 [(.var 0), (.var 1), (.var 2), (.var 4)]),
  .if_ (.ccmp .Is (.var 5) (.con .non)) [.ret (.con (.str "turn"))] [],
  .ret (.ite (.ccmp .Gt (.var 3) (.ix (.var 5) (.con (.int 1)))) (.con (.str "far")) (.ite (.ccmp .Lt (.var 3) (.ix (.var 5) (.con (.int 0)))) (.con (.str "near")) (.con (.str ""))))]
noncomputable abbrev s13 : Stmt := topS 23
noncomputable def n13 : List Str := ["_law_edges", "_law_first", "_law_last", "_law_far_off", "_law_most", "_law_many"]
noncomputable def p13 : List Str := ["_law_edges", "_law_first", "_law_last", "_law_far_off", "_law_most"]
theorem sc13 : FnScope n13 p13 (L2.defScope s13) := ⟨rfl, rfl, rfl, by decide +kernel, rfl, by decide +kernel, by decide +kernel⟩
/-- _law_few -/
noncomputable def c13 : List CS := [.for_ (.name 5) (.range1 (.bin .Add false (.var 4) (.con (.int 1)))) [.if_ (.ccmp .Eq (.call 12 [(.var 0), (.var 1), (.var 2), (.var 3), (.var 5)]) (.con (.str ""))) [.ret (.var 5)] []],
  .ret (.con .non)]
noncomputable abbrev s14 : Stmt := topS 24
noncomputable def n14 : List Str := ["_law_edges", "_law_first", "_law_last", "_law_far_off", "_law_many", "e", "_law_others", "_law_caught", "_law_found"]
noncomputable def p14 : List Str := ["_law_edges", "_law_first", "_law_last", "_law_far_off", "_law_many"]
theorem sc14 : FnScope n14 p14 (L2.defScope s14) := ⟨rfl, rfl, rfl, by decide +kernel, rfl, by decide +kernel, by decide +kernel⟩
/-- _law_told -/
noncomputable def c14 : List CS := [.asg (.tup [(.name 7), (.name 8)]) (.tup [(.con .non), (.con .non)]),
  .tryC (some 8) (.fn 0 [(.var 0), (.var 1), (.var 2), (.var 3), (.var 4)]) 5 7,
  .if_ (.ccmp .Is (.var 7) (.con .non)) [.ret (.var 8)] [],
  .asg (.name 6) (.isiX true ["NotSuch", "NoTale", "NoWheel", "NoBeat", "Done"] (.var 7)),
  .ret (.ite (.cand (.cval (.isiX false ["NoWay"] (.var 7))) (.cnot (.cval (.var 6)))) (.con (.str "none")) (.con (.str "other")))]
noncomputable abbrev s15 : Stmt := topS 25
noncomputable def n15 : List Str := ["_law_hand_here", "_law_edges", "_law_first", "_law_last", "_law_many", "_law_found", "_law_far_off", "_law_due_here"]
noncomputable def p15 : List Str := ["_law_hand_here"]
theorem sc15 : FnScope n15 p15 (L2.defScope s15) := ⟨rfl, rfl, rfl, by decide +kernel, rfl, by decide +kernel, by decide +kernel⟩
/-- _law_near_right -/
noncomputable def c15 : List CS := [.asg (.tup [(.name 1), (.name 2), (.name 3)]) (.call 8 [(.var 0), (.con (.int 3))]),
  .for_ (.tup [(.name 4), (.name 5)]) (.enum (.call 10 [(.var 1), (.var 2), (.con (.int 6))])) [.for_ (.name 6) (.range2 (.neg (.con (.int 20))) (.con (.int 21))) [.asg (.name 7) (.ix (.dget2 (.var 5) [(.var 3), (.var 6)] (.tup [(.tup []), (.con (.str "none"))])) (.con (.int 1))),
    .if_ (.ccmp .NotEq (.bi .repr1 false [(.call 14 [(.var 1), (.var 2), (.var 3), (.var 6), (.var 4)])]) (.bi .repr1 false [(.var 7)])) [.ret (.con (.bl false))] []]],
  .ret (.con (.bl true))]
noncomputable abbrev s16 : Stmt := topS 26
noncomputable def n16 : List Str := ["_law_edges", "_law_first", "_law_last", "_law_far_off", "_law_many", "_law_beat", "_law_low", "_law_high", "_law_push", "_law_found", "_law_pace", "_law_other", "_law_left", "_law_some"]
noncomputable def p16 : List Str := ["_law_edges", "_law_first", "_law_last", "_law_far_off", "_law_many"]
theorem sc16 : FnScope n16 p16 (L2.defScope s16) := ⟨rfl, rfl, rfl, by decide +kernel, rfl, by decide +kernel, by decide +kernel⟩
/-- _law_due -/
noncomputable def c16 : List CS := [.asg (.tup [(.name 6), (.name 7), (.name 8)]) (.var 0),
  .par2 9 10 (.lst true []) (.var 1),
  .for_ (.name 5) (.range1 (.var 4)) [.par2 12 13 (.bin .Sub false (.bin .Sub false (.var 4) (.var 5)) (.con (.int 1))) (.lst true []),
    .for_ (.name 11) (.range2 (.bi .max2 false [(.var 6), (.bin .Sub false (.var 10) (.var 8))]) (.bin .Add false (.bi .min2 false [(.var 7), (.bin .Add false (.var 10) (.var 8))]) (.con (.int 1)))) [.if_ (.ccmp .Eq (.call 12 [(.var 0), (.var 11), (.var 2), (.bin .Sub false (.var 3) (.var 11)), (.var 12)]) (.con (.str ""))) [.append (.var 13) (.tup [(.call 9 [(.var 11)]), (.var 11)])] []],
    .asg (.name 10) (.ix (.ix (.bi .sortL false [(.var 13)]) (.con (.int 0))) (.con (.int 1))),
    .append (.var 9) (.var 10),
    .asg (.name 3) (.bin .Sub false (.var 3) (.var 10))],
  .ret (.bi .tuple1 false [(.var 9)])]
noncomputable abbrev s17 : Stmt := topS 27
noncomputable def n17 : List Str := ["_law_hand_here", "_law_turn", "_law_far_off", "_law_many", "_law_edges", "_law_first", "_law_last", "_law_due_here", "_law_named"]
noncomputable def p17 : List Str := ["_law_hand_here"]
theorem sc17 : FnScope n17 p17 (L2.defScope s17) := ⟨rfl, rfl, rfl, by decide +kernel, rfl, by decide +kernel, by decide +kernel⟩
/-- _law_right -/
noncomputable def c17 : List CS := [.if_ (.cnot (.cval (.call 15 [(.var 0)]))) [.ret (.con (.bl false))] [],
  .for_ (.name 1) (.range1 (.con (.int 3))) [.asg (.tup [(.name 4), (.name 5), (.name 6)]) (.call 8 [(.var 0), (.con (.int 12))]),
    .asg (.name 2) (.bin .Sub false (.call 7 [(.var 0), (.con (.int 401))]) (.con (.int 200))),
    .asg (.name 3) (.call 13 [(.var 4), (.var 5), (.var 6), (.var 2), (.con (.int 60))]),
    .if_ (.ccmp .IsNot (.var 3) (.con .non)) [.asg (.name 3) (.bin .Add false (.var 3) (.call 7 [(.var 0), (.con (.int 21))])),
    .asg (.name 7) (.con (.str "none")),
    .if_ (.ccmp .Eq (.call 12 [(.var 4), (.var 5), (.var 6), (.var 2), (.var 3)]) (.con (.str ""))) [.asg (.name 7) (.call 16 [(.var 4), (.var 5), (.var 6), (.var 2), (.var 3)])] [],
    .if_ (.ccmp .NotEq (.bi .repr1 false [(.call 14 [(.var 4), (.var 5), (.var 6), (.var 2), (.var 3)])]) (.bi .repr1 false [(.var 7)])) [.ret (.con (.bl false))] [],
    .asg (.name 8) (.var 7),
    .if_ (.ccmp .NotEq (.var 7) (.con (.str "none"))) [.asg (.name 8) (.callK 5 [] [(.var 3), (.var 2), (.var 6), (.var 5), (.var 4)] [4, 3, 2, 1, 0])] [],
    .if_ (.ccmp .NotEq (.bi .repr1 false [(.var 8)]) (.bi .repr1 false [(.var 7)])) [.ret (.con (.bl false))] []] []],
  .ret (.con (.bl true))]
noncomputable abbrev s18 : Stmt := topS 28
noncomputable def n18 : List Str := ["_law_script", "_law_k"]
noncomputable def p18 : List Str := ["_law_script"]
theorem sc18 : FnScope n18 p18 (L2.defScope s18) := ⟨rfl, rfl, rfl, by decide +kernel, rfl, by decide +kernel, by decide +kernel⟩
/-- law -/
noncomputable def c18 : List CS := [.ret (.bi .all1 false [(.lc false (.call 17 [(.call 6 [(.var 0), (.var 1)])]) (.name 1) (.range1 (.bi .max2 false [(.con (.int 1)), (.bi .min2 false [(.con (.int 4)), (.bi .len false [(.var 0)])])])) [] [1])])]
noncomputable def gls : List Str := []
noncomputable def bis : List Str := ["abs", "all", "enumerate", "int", "isinstance", "len", "list", "max", "min", "range", "repr", "sorted", "tuple"]
noncomputable def cls : List CIn := []
noncomputable def i0 : FI := ⟨"rising", p0, [], false, none, 0⟩
noncomputable def i1 : FI := ⟨"greatest", p1, [], false, none, 0⟩
noncomputable def i2 : FI := ⟨"spread", p2, [], false, none, 0⟩
noncomputable def i3 : FI := ⟨"word_at", p3, [], false, none, 0⟩
noncomputable def i4 : FI := ⟨"next_pace", p4, [], false, none, 0⟩
noncomputable def i5 : FI := ⟨"way", p5, [(["n", "length", "z", "v", "bounds"], [4, 3, 2, 1, 0])], false, none, 0⟩
noncomputable def i6 : FI := ⟨"_law_hand", p6, [], false, none, 0⟩
noncomputable def i7 : FI := ⟨"_law_take", p7, [], false, none, 0⟩
noncomputable def i8 : FI := ⟨"_law_case", p8, [], false, none, 0⟩
noncomputable def i9 : FI := ⟨"_law_rank", p9, [], false, none, 0⟩
noncomputable def i10 : FI := ⟨"_law_ways", p10, [], false, none, 0⟩
noncomputable def i11 : FI := ⟨"_law_lengths", p11, [], false, none, 0⟩
noncomputable def i12 : FI := ⟨"_law_word", p12, [], false, none, 0⟩
noncomputable def i13 : FI := ⟨"_law_few", p13, [], false, none, 0⟩
noncomputable def i14 : FI := ⟨"_law_told", p14, [], false, none, 0⟩
noncomputable def i15 : FI := ⟨"_law_near_right", p15, [], false, none, 0⟩
noncomputable def i16 : FI := ⟨"_law_due", p16, [], false, none, 0⟩
noncomputable def i17 : FI := ⟨"_law_right", p17, [], false, none, 0⟩
noncomputable def T0 : Tb := ⟨[], cls, gls, bis, false, {}⟩
noncomputable def T1 : Tb := ⟨[i0], cls, gls, bis, false, {}⟩
noncomputable def T2 : Tb := ⟨[i0, i1], cls, gls, bis, false, {}⟩
noncomputable def T3 : Tb := ⟨[i0, i1, i2], cls, gls, bis, false, {}⟩
noncomputable def T4 : Tb := ⟨[i0, i1, i2, i3], cls, gls, bis, true, {}⟩
noncomputable def T5 : Tb := ⟨[i0, i1, i2, i3, i4], cls, gls, bis, false, ⟨["NoWay"], [i5], false, ["NotSuch", "Lost", "NoTale", "NoWay", "NoWheel", "NoBeat", "Done"]⟩⟩
noncomputable def TP5 : Tb := ⟨[i0, i1, i2, i3, i4], cls, gls, bis, false, {}⟩
noncomputable def TX5 : Tb := ⟨[i0, i1, i2, i3, i4], cls, gls, bis, false, ⟨["NoWay"], [], false, ["NotSuch", "Lost", "NoTale", "NoWay", "NoWheel", "NoBeat", "Done"]⟩⟩
noncomputable def T6 : Tb := ⟨[i0, i1, i2, i3, i4, i5], cls, gls, bis, false, ⟨["NoWay"], [i5], false, ["NotSuch", "Lost", "NoTale", "NoWay", "NoWheel", "NoBeat", "Done"]⟩⟩
noncomputable def T7 : Tb := ⟨[i0, i1, i2, i3, i4, i5, i6], cls, gls, bis, false, ⟨["NoWay"], [i5], false, ["NotSuch", "Lost", "NoTale", "NoWay", "NoWheel", "NoBeat", "Done"]⟩⟩
noncomputable def T8 : Tb := ⟨[i0, i1, i2, i3, i4, i5, i6, i7], cls, gls, bis, false, ⟨["NoWay"], [i5], false, ["NotSuch", "Lost", "NoTale", "NoWay", "NoWheel", "NoBeat", "Done"]⟩⟩
noncomputable def T9 : Tb := ⟨[i0, i1, i2, i3, i4, i5, i6, i7, i8], cls, gls, bis, false, ⟨["NoWay"], [i5], false, ["NotSuch", "Lost", "NoTale", "NoWay", "NoWheel", "NoBeat", "Done"]⟩⟩
noncomputable def T10 : Tb := ⟨[i0, i1, i2, i3, i4, i5, i6, i7, i8, i9], cls, gls, bis, false, ⟨["NoWay"], [i5], false, ["NotSuch", "Lost", "NoTale", "NoWay", "NoWheel", "NoBeat", "Done"]⟩⟩
noncomputable def T11 : Tb := ⟨[i0, i1, i2, i3, i4, i5, i6, i7, i8, i9, i10], cls, gls, bis, false, ⟨["NoWay"], [i5], false, ["NotSuch", "Lost", "NoTale", "NoWay", "NoWheel", "NoBeat", "Done"]⟩⟩
noncomputable def T12 : Tb := ⟨[i0, i1, i2, i3, i4, i5, i6, i7, i8, i9, i10, i11], cls, gls, bis, false, ⟨["NoWay"], [i5], false, ["NotSuch", "Lost", "NoTale", "NoWay", "NoWheel", "NoBeat", "Done"]⟩⟩
noncomputable def T13 : Tb := ⟨[i0, i1, i2, i3, i4, i5, i6, i7, i8, i9, i10, i11, i12], cls, gls, bis, false, ⟨["NoWay"], [i5], false, ["NotSuch", "Lost", "NoTale", "NoWay", "NoWheel", "NoBeat", "Done"]⟩⟩
noncomputable def T14 : Tb := ⟨[i0, i1, i2, i3, i4, i5, i6, i7, i8, i9, i10, i11, i12, i13], cls, gls, bis, false, ⟨["NoWay"], [i5], false, ["NotSuch", "Lost", "NoTale", "NoWay", "NoWheel", "NoBeat", "Done"]⟩⟩
noncomputable def T15 : Tb := ⟨[i0, i1, i2, i3, i4, i5, i6, i7, i8, i9, i10, i11, i12, i13, i14], cls, gls, bis, false, ⟨["NoWay"], [i5], false, ["NotSuch", "Lost", "NoTale", "NoWay", "NoWheel", "NoBeat", "Done"]⟩⟩
noncomputable def T16 : Tb := ⟨[i0, i1, i2, i3, i4, i5, i6, i7, i8, i9, i10, i11, i12, i13, i14, i15], cls, gls, bis, false, ⟨["NoWay"], [i5], false, ["NotSuch", "Lost", "NoTale", "NoWay", "NoWheel", "NoBeat", "Done"]⟩⟩
noncomputable def T17 : Tb := ⟨[i0, i1, i2, i3, i4, i5, i6, i7, i8, i9, i10, i11, i12, i13, i14, i15, i16], cls, gls, bis, false, ⟨["NoWay"], [i5], false, ["NotSuch", "Lost", "NoTale", "NoWay", "NoWheel", "NoBeat", "Done"]⟩⟩
noncomputable def T18 : Tb := ⟨[i0, i1, i2, i3, i4, i5, i6, i7, i8, i9, i10, i11, i12, i13, i14, i15, i16, i17], cls, gls, bis, false, ⟨["NoWay"], [i5], false, ["NotSuch", "Lost", "NoTale", "NoWay", "NoWheel", "NoBeat", "Done"]⟩⟩
theorem ok0 : okSs T0 n0 ⟨L2.defScope s0, L2.defScope s0⟩ c0 (L2.defBody s0) = true := by decide +kernel
theorem ok1 : okSs T1 n1 ⟨L2.defScope s1, L2.defScope s1⟩ c1 (L2.defBody s1) = true := by decide +kernel
theorem ok2 : okSs T2 n2 ⟨L2.defScope s2, L2.defScope s2⟩ c2 (L2.defBody s2) = true := by decide +kernel
theorem ok3 : okSs T3 n3 ⟨L2.defScope s3, L2.defScope s3⟩ c3 (L2.defBody s3) = true := by decide +kernel
theorem ok4 : okSs T4 n4 ⟨L2.defScope s4, L2.defScope s4⟩ c4 (L2.defBody s4) = true := by decide +kernel
theorem ok5 : okSs T5 n5 ⟨L2.defScope s5, L2.defScope s5⟩ c5 (L2.defBody s5) = true := by decide +kernel
theorem ok6 : okSs T6 n6 ⟨L2.defScope s6, L2.defScope s6⟩ c6 (L2.defBody s6) = true := by decide +kernel
theorem ok7 : okSs T7 n7 ⟨L2.defScope s7, L2.defScope s7⟩ c7 (L2.defBody s7) = true := by decide +kernel
theorem ok8 : okSs T8 n8 ⟨L2.defScope s8, L2.defScope s8⟩ c8 (L2.defBody s8) = true := by decide +kernel
theorem ok9 : okSs T9 n9 ⟨L2.defScope s9, L2.defScope s9⟩ c9 (L2.defBody s9) = true := by decide +kernel
theorem ok10 : okSs T10 n10 ⟨L2.defScope s10, L2.defScope s10⟩ c10 (L2.defBody s10) = true := by decide +kernel
theorem ok11 : okSs T11 n11 ⟨L2.defScope s11, L2.defScope s11⟩ c11 (L2.defBody s11) = true := by decide +kernel
theorem ok12 : okSs T12 n12 ⟨L2.defScope s12, L2.defScope s12⟩ c12 (L2.defBody s12) = true := by decide +kernel
theorem ok13 : okSs T13 n13 ⟨L2.defScope s13, L2.defScope s13⟩ c13 (L2.defBody s13) = true := by decide +kernel
theorem ok14 : okSs T14 n14 ⟨L2.defScope s14, L2.defScope s14⟩ c14 (L2.defBody s14) = true := by decide +kernel
theorem ok15 : okSs T15 n15 ⟨L2.defScope s15, L2.defScope s15⟩ c15 (L2.defBody s15) = true := by decide +kernel
theorem ok16 : okSs T16 n16 ⟨L2.defScope s16, L2.defScope s16⟩ c16 (L2.defBody s16) = true := by decide +kernel
theorem ok17 : okSs T17 n17 ⟨L2.defScope s17, L2.defScope s17⟩ c17 (L2.defBody s17) = true := by decide +kernel
theorem ok18 : okSs T18 n18 ⟨L2.defScope s18, L2.defScope s18⟩ c18 (L2.defBody s18) = true := by decide +kernel
/-- way, where it may raise -/
noncomputable def cx5 : List CS := [.if_ (.ccmp .NotEq (.call 3 [(.var 0), (.var 1), (.var 2), (.var 3), (.var 4)]) (.con (.str ""))) [.raise0 "NoWay"] [],
  .asg (.name 5) (.lst true []),
  .for_ (.name 6) (.range3 (.var 4) (.con (.int 0)) (.neg (.con (.int 1)))) [.asg (.name 1) (.call 4 [(.var 0), (.var 1), (.var 2), (.var 3), (.var 6)]),
    .aug 3 .Sub (.var 1),
    .append (.var 5) (.var 1)],
  .ret (.bi .tuple1 false [(.var 5)])]
theorem okx5 : okSs TX5.rz n5 ⟨L2.defScope s5, L2.defScope s5⟩ cx5 (L2.defBody s5) = true := by decide +kernel
noncomputable abbrev sx0 : Stmt := inClass (topS 4) 0
theorem scx0 : FnScope ["self"] ["self"] (L2.defScope sx0) := ⟨rfl, rfl, rfl, by decide +kernel, rfl, by decide +kernel, by decide +kernel⟩
end Law_k28
namespace Law_k28
open PySem PySem.Spec PyProof.Rows L2 DL
noncomputable def spRankK (ds : List D) (S : DStore) (Q : QE) : Prop := ∃ w : Int, ds = [.int w] ∧ -1000 ≤ w ∧ w ≤ 1000 ∧ Q (.int (rankI w)) S
theorem spRankK_len : ∀ ds S Q, spRankK ds S Q → ds.length = 1 := by rintro _ _ _ ⟨_, rfl, _⟩; rfl
/-- the dicts of so many beats -/
noncomputable def FoundR (l h p v : Int) (S : DStore) (rs : List Nat) : Prop := ∀ (j : Nat) (r : Nat), rs[j]? = some r → ∃ kvs, S[r]? = some (.dct kvs) ∧ RD l h p v j kvs
theorem FoundR.keep {l h p v : Int} {S S' : DStore} {rs : List Nat} (F : FoundR l h p v S rs) (k : Kp S S') : FoundR l h p v S' rs := fun j r hr => let ⟨kvs, a, b⟩ := F j r hr; ⟨kvs, k _ _ a, b⟩
noncomputable def spWaysR (ds : List D) (S : DStore) (Q : QE) : Prop := ∃ l h p v : Int, ∃ n : Nat, ds = [bndD l h p, .int v, .int n] ∧ n ≤ 7 ∧ 1 ≤ p ∧ p ≤ 3 ∧ -1000 ≤ l ∧ h ≤ 1000 ∧ l ≤ v ∧ v ≤ h ∧
  ∀ (q : Nat) (rs : List Nat) S', Kp S S' → S.length ≤ q → S'[q]? = some (.lst (rs.map D.ref)) → rs.length = n + 1 → FoundR l h p v S' rs → Q (.ref q) S'
theorem spWaysR_len : ∀ ds S Q, spWaysR ds S Q → ds.length = 3 := by rintro _ _ _ ⟨_, _, _, _, _, rfl, _⟩; rfl
noncomputable def spWayX (ds : List D) (S : DStore) (Q : QE) (E : QX) : Prop := ∃ l h p v z L : Int, ∃ n : Nat, ds = [bndD l h p, .int v, .int z, .int L, .int (n : Int)] ∧ BdOk l h p v z ∧ h - l ≤ 1000 ∧ n ≤ 100000 ∧
  (okNw l h p v z L n → ∀ ws S', ws.length = n → IsW l h p z v L ws → Kp S S' → Q (.tup (ws.map D.int)) S') ∧ (¬ okNw l h p v z L n → E "NoWay" [] S)
theorem spWayX_len : ∀ ds S Q E, spWayX ds S Q E → ds.length = 5 := by rintro _ _ _ _ ⟨_, _, _, _, _, _, _, rfl, _⟩; rfl
noncomputable def spToldW (ds : List D) (S : DStore) (Q : QE) : Prop := ∃ l h p v z L : Int, ∃ n : Nat, ds = [bndD l h p, .int v, .int z, .int L, .int (n : Int)] ∧ BdOk l h p v z ∧ h - l ≤ 1000 ∧ n ≤ 100000 ∧
  (okNw l h p v z L n → ∀ ws S', ws.length = n → IsW l h p z v L ws → Kp S S' → Q (.tup (ws.map D.int)) S') ∧ (¬ okNw l h p v z L n → ∀ S', Kp S S' → Q (.str "none") S')
theorem spToldW_len : ∀ ds S Q, spToldW ds S Q → ds.length = 5 := by rintro _ _ _ ⟨_, _, _, _, _, _, _, rfl, _⟩; rfl
noncomputable def spDueW (ds : List D) (S : DStore) (Q : QE) : Prop := ∃ l h p v z L : Int, ∃ n : Nat, ds = [bndD l h p, .int v, .int z, .int L, .int (n : Int)] ∧ Bd12 l h p v z ∧ n ≤ 1000 ∧ okNw l h p v z L n ∧
  ∀ ws S', ws.length = n → IsW l h p z v L ws → Kp S S' → Q (.tup (ws.map D.int)) S'
theorem spDueW_len : ∀ ds S Q, spDueW ds S Q → ds.length = 5 := by rintro _ _ _ ⟨_, _, _, _, _, _, _, rfl, _⟩; rfl
noncomputable def spNearR (ds : List D) (S : DStore) (Q : QE) : Prop := ∃ n T, ds = [.ref n] ∧ Pot n T S ∧ T < 1000 ∧ ∀ S', Pot n (T + 5) S' → Fr n S S' → Q (.bl true) S'
theorem spNearR_len : ∀ ds S Q, spNearR ds S Q → ds.length = 1 := by rintro _ _ _ ⟨_, _, rfl, _⟩; rfl
noncomputable def spRight (ds : List D) (S : DStore) (Q : QE) : Prop := ∃ n, ds = [.ref n] ∧ Pot n 0 S ∧ ∀ S', Q (.bl true) S'
theorem spRight_len : ∀ ds S Q, spRight ds S Q → ds.length = 1 := by rintro _ _ _ ⟨_, rfl, _⟩; rfl
noncomputable def G : Fns := { fn := fun j => match j with
  | 0 => spRis | 1 => spGrt | 2 => spSpread | 3 => spWd | 4 => spNext | 5 => spWay | 6 => spHand | 7 => spTake | 8 => spCase | 9 => spRankK | 10 => spWaysR | 11 => spLens | 12 => spWd2 | 13 => spFew2 | 14 => spToldW | 15 => spNearR | 16 => spDueW | 17 => spRight | _ => spLaw, gl := fun _ => .non, fx := fun j => match j with | 0 => spWayX | _ => fun _ _ _ _ => False }
theorem G0 : G.fn 0 = spRis := rfl
theorem G1 : G.fn 1 = spGrt := rfl
theorem G2 : G.fn 2 = spSpread := rfl
theorem G3 : G.fn 3 = spWd := rfl
theorem G4 : G.fn 4 = spNext := rfl
theorem G5 : G.fn 5 = spWay := rfl
theorem G6 : G.fn 6 = spHand := rfl
theorem G7 : G.fn 7 = spTake := rfl
theorem G8 : G.fn 8 = spCase := rfl
theorem G9 : G.fn 9 = spRankK := rfl
theorem G10 : G.fn 10 = spWaysR := rfl
theorem G11 : G.fn 11 = spLens := rfl
theorem G12 : G.fn 12 = spWd2 := rfl
theorem G13 : G.fn 13 = spFew2 := rfl
theorem G14 : G.fn 14 = spToldW := rfl
theorem G15 : G.fn 15 = spNearR := rfl
theorem G16 : G.fn 16 = spDueW := rfl
theorem G17 : G.fn 17 = spRight := rfl
theorem len0 : ∀ ds S Q, G.fn 0 ds S Q → ds.length = p0.length := spRis_len
theorem len1 : ∀ ds S Q, G.fn 1 ds S Q → ds.length = p1.length := spGrt_len
theorem len2 : ∀ ds S Q, G.fn 2 ds S Q → ds.length = p2.length := spSpread_len
theorem len3 : ∀ ds S Q, G.fn 3 ds S Q → ds.length = p3.length := spWd_len
theorem len4 : ∀ ds S Q, G.fn 4 ds S Q → ds.length = p4.length := spNext_len
theorem len5 : ∀ ds S Q, G.fn 5 ds S Q → ds.length = p5.length := spWay_len
theorem len6 : ∀ ds S Q, G.fn 6 ds S Q → ds.length = p6.length := spHand_len
theorem len7 : ∀ ds S Q, G.fn 7 ds S Q → ds.length = p7.length := spTake_len
theorem len8 : ∀ ds S Q, G.fn 8 ds S Q → ds.length = p8.length := spCase_len
theorem len9 : ∀ ds S Q, G.fn 9 ds S Q → ds.length = p9.length := spRankK_len
theorem len10 : ∀ ds S Q, G.fn 10 ds S Q → ds.length = p10.length := spWaysR_len
theorem len11 : ∀ ds S Q, G.fn 11 ds S Q → ds.length = p11.length := spLens_len
theorem len12 : ∀ ds S Q, G.fn 12 ds S Q → ds.length = p12.length := spWd2_len
theorem len13 : ∀ ds S Q, G.fn 13 ds S Q → ds.length = p13.length := spFew2_len
theorem len14 : ∀ ds S Q, G.fn 14 ds S Q → ds.length = p14.length := spToldW_len
theorem len15 : ∀ ds S Q, G.fn 15 ds S Q → ds.length = p15.length := spNearR_len
theorem len16 : ∀ ds S Q, G.fn 16 ds S Q → ds.length = p16.length := spDueW_len
theorem len17 : ∀ ds S Q, G.fn 17 ds S Q → ds.length = p17.length := spRight_len
theorem GX0 : G.fx 0 = spWayX := rfl
theorem lenx5 : ∀ ds S Q E, G.fx 0 ds S Q E → ds.length = p5.length := spWayX_len
theorem len18 : ∀ ds S Q, spLaw ds S Q → ds.length = p18.length := by rintro _ _ _ ⟨_, rfl, _⟩; rfl
theorem body0 : ∀ ds S Q, G.fn 0 ds S Q → wpSs G c0 (startD n0.length ds) S { nx := fun _ S' => Q .non S', rt := Q } := ris_ok
theorem body1 : ∀ ds S Q, G.fn 1 ds S Q → wpSs G c1 (startD n1.length ds) S { nx := fun _ S' => Q .non S', rt := Q } := grt_ok G0
theorem body2 : ∀ ds S Q, G.fn 2 ds S Q → wpSs G c2 (startD n2.length ds) S { nx := fun _ S' => Q .non S', rt := Q } := spread_ok G1
theorem body3 : ∀ ds S Q, G.fn 3 ds S Q → wpSs G c3 (startD n3.length ds) S { nx := fun _ S' => Q .non S', rt := Q } := wd_ok G2
theorem body4 : ∀ ds S Q, G.fn 4 ds S Q → wpSs G c4 (startD n4.length ds) S { nx := fun _ S' => Q .non S', rt := Q } := next_ok G3
theorem body5 : ∀ ds S Q, G.fn 5 ds S Q → wpSs G c5 (startD n5.length ds) S { nx := fun _ S' => Q .non S', rt := Q } := way_ok G3 G4
theorem body6 : ∀ ds S Q, G.fn 6 ds S Q → wpSs G c6 (startD n6.length ds) S { nx := fun _ S' => Q .non S', rt := Q } := hand_ok
theorem body7 : ∀ ds S Q, G.fn 7 ds S Q → wpSs G c7 (startD n7.length ds) S { nx := fun _ S' => Q .non S', rt := Q } := take_ok
theorem body8 : ∀ ds S Q, G.fn 8 ds S Q → wpSs G c8 (startD n8.length ds) S { nx := fun _ S' => Q .non S', rt := Q } := case_ok G7
theorem body12 : ∀ ds S Q, G.fn 12 ds S Q → wpSs G c12 (startD n12.length ds) S { nx := fun _ S' => Q .non S', rt := Q } := wd2_ok G11
theorem body13 : ∀ ds S Q, G.fn 13 ds S Q → wpSs G c13 (startD n13.length ds) S { nx := fun _ S' => Q .non S', rt := Q } := few2_ok G12
theorem purs_intsI : ∀ xs : List Int, purs (xs.map D.int) = some (xs.map PyData.int)
  | [] => rfl
  | x :: xs => by simp only [List.map_cons, purs, pur, purs_intsI xs]; rfl
theorem eqv_allI : ∀ a b : List Int, PyData.eqvAll (a.map .int) (b.map .int) = decide (a = b)
  | [], [] => by simp [PyData.eqvAll]
  | [], _ :: _ => by simp [PyData.eqvAll]
  | _ :: _, [] => by simp [PyData.eqvAll]
  | x :: a, y :: b => by
    simp only [List.map_cons, PyData.eqvAll, eqv_allI a b]
    have : PyData.eqv (.int x) (.int y) = decide (x = y) := by
      simp only [PyData.eqv]
      by_cases h : x = y <;> simp [h]
    rw [this]
    by_cases h : x = y <;> simp [h]
theorem eqv_tI (a b : List Int) : PyData.eqv (.tuple (a.map .int)) (.tuple (b.map .int)) = decide (a = b) := by
  rw [← eqv_allI a b]
  simp [PyData.eqv]
theorem eqv_ints (x : List Int) : PyData.eqv (.tuple (x.map .int)) (.tuple (x.map .int)) = true := by rw [eqv_tI]; simp
theorem eqv_intsE {a b : List Int} (h : PyData.eqv (.tuple (a.map .int)) (.tuple (b.map .int)) = true) : a = b := by rw [eqv_tI] at h; exact of_decide_eq_true h
theorem if_absI (i : Int) : (if i < 0 then -i else i) = absI i := rfl
theorem body9 : ∀ ds S Q, G.fn 9 ds S Q → wpSs G c9 (startD n9.length ds) S { nx := fun _ S' => Q .non S', rt := Q } := by
  rintro ds S Q ⟨w, rfl, h1, h2, hQ⟩
  unfold c9 n9
  simp_arith only []
  have ha := absI_eq w
  refine ⟨mul_small_left (by omega) (by omega), ?_⟩
  have e : (2 * (if w < 0 then -w else w) - if 0 < w then 1 else 0) = rankI w := by
    unfold rankI
    rw [if_absI]
  rw [e]
  exact hQ
theorem lt_wayE {S : DStore} {a b : List Int} {QB : Bool → Prop} (hl : QB (decide (rks a < rks b))) : cmpD .Lt S (wayE a) (wayE b) QB := by
  have pu : ∀ x : List Int, purS S (wayE x) = some (.tuple [.tuple ((rks x).map .int), .tuple (x.map .int)]) := fun x => by
    unfold wayE
    simp only [purS, pur, purs, purs_intsI]
    rfl
  refine ⟨_, _, pu a, pu b, ?_, (fun z => nomatch z), ?_, ?_⟩
  · simp only [PySem.W.alike, PySem.W.alikeAll, alike_i, Bool.and_true]
  · simp only [PyData.depth, PyData.depthAll, depth_i]
    decide
  · have h1 : PySem.W.alike (.tuple ((rks a).map .int)) (.tuple ((rks b).map .int)) = true := by rw [PySem.W.alike]; exact alike_i _ _
    have h2 : PySem.W.alike (.tuple (a.map .int)) (.tuple (b.map .int)) = true := by rw [PySem.W.alike]; exact alike_i _ _
    have e : PySem.W.dataLt (.tuple [.tuple ((rks a).map .int), .tuple (a.map .int)]) (.tuple [.tuple ((rks b).map .int), .tuple (b.map .int)]) = decide (rks a < rks b) := by
      rw [PySem.W.dataLt_pair h1 h2]
      by_cases q : rks a = rks b
      · have := rks_inj q
        subst this
        have e1 : ∀ x : List Int, PyData.eqv (.tuple (x.map .int)) (.tuple (x.map .int)) = true := fun x => eqv_ints x
        rw [if_pos (e1 _), if_pos (e1 _)]
        exact (decide_eq_false (List.lt_irrefl _)).symm
      · rw [if_neg (fun c => q (eqv_intsE c))]
        exact (PySem.W.dataLt_tuple _ _).trans (PySem.W.dataLt_ints _ _)
    show QB (PySem.W.dataLt _ _)
    rw [e]; exact hl
noncomputable def waysB : List CS := match c10 with
  | _ :: _ :: .for_ _ _ b :: _ => b
  | _ => []
noncomputable def waysI : List CS := match waysB with
  | _ :: .for_ _ _ b :: _ => b
  | _ => []
noncomputable def waysJ : List CS := match waysI with
  | _ :: .for_ _ _ b :: _ => b
  | _ => []
theorem pow7 {m : Nat} (h : m ≤ 7) : 7 ^ m ≤ 823543 := Nat.le_trans (Nat.pow_le_pow_right (by decide) h) (by decide)
theorem dct_atI {S : DStore} {n : Nat} {kvs : List (List L2.Key × D)} (h : S[n]? = some (.dct kvs)) : dctOf S n = some kvs := by unfold dctOf; rw [h]
theorem q_notInI {S : DStore} {ks : List L2.Key} {n : Nat} {QB : Bool → Prop} : cmpD .NotIn S (.key ks) (.ref n) QB = ∃ kvs, dctOf S n = some kvs ∧ QB (!(valD kvs ks).isSome) := by
  refine propext ⟨fun ⟨n', kvs, e, h, q⟩ => ?_, fun ⟨kvs, h, q⟩ => ⟨n, kvs, rfl, h, q⟩⟩
  cases e
  exact ⟨kvs, h, q⟩
theorem waysJ_ok {S S1 : DStore} {l h p v : Int} {m c d : Nat} {R R' : List Int → Int → Prop} {kvs : List (List L2.Key × D)} {ws : List Int} {w : Int} {d0 d1 d2 d3 : D} {r4 r14 r15 : Option D} {Q : QE} {N bk ct : DEnv → DStore → Prop}
    (hm : m ≤ 6) (hc : c < 823543) (hb : -1000 ≤ l ∧ h ≤ 1000) (hl : ws.length = m) (hw : isWay l h p v ws) (hs : l ≤ w ∧ w ≤ h ∧ lastP v ws - p ≤ w ∧ w ≤ lastP v ws + p) (hd : S1[d]? = some (.dct kvs)) (hK : Kp S S1) (hS : S.length ≤ d) (P : RP l h p v m c R kvs) (hp : ∀ u w', R' u w' → R u w' ∨ (u = ws ∧ w' = w))
    (hN : ∀ (r14 r15 : Option D) S' kvs, Kp S S' → S'[d]? = some (.dct kvs) → RP l h p v m (c + 1) R' kvs → N [some d0, some d1, some d2, some d3, r4, some (.int l), some (.int h), some (.int p), some (.ref d), some (.int (lastP v ws)), some (.int (sumL ws)), some (.int w), some (.tup ((rks ws).map D.int)), some (.tup (ws.map D.int)), r14, r15] S') :
    wpSs G waysJ [some d0, some d1, some d2, some d3, r4, some (.int l), some (.int h), some (.int p), some (.ref d), some (.int (lastP v ws)), some (.int (sumL ws)), some (.int w), some (.tup ((rks ws).map D.int)), some (.tup (ws.map D.int)), r14, r15] S1 ⟨N, Q, bk, ct⟩ := by
  have dl := (List.getElem?_eq_some_iff.mp hd).1
  have hput : (∀ us, valD kvs (kyW v (ws ++ [w])) = some (wayE us) → rks (ws ++ [w]) ≤ rks us) → ∀ (r14 r15 : Option D), N [some d0, some d1, some d2, some d3, r4, some (.int l), some (.int h), some (.int p), some (.ref d), some (.int (lastP v ws)), some (.int (sumL ws)), some (.int w), some (.tup ((rks ws).map D.int)), some (.tup (ws.map D.int)), r14, r15] (S1.set d (.dct (putD kvs (kyW v (ws ++ [w])) (wayE (ws ++ [w]))))) := fun ho r14 r15 =>
    hN r14 r15 _ _ (kp_set hK hS) (List.getElem?_set_self dl) (P.put hl hw hs ho hp)
  have e1 : D.tup [.tup ((rks ws).map D.int ++ [.int (rankI w)]), .tup (ws.map D.int ++ [.int w])] = wayE (ws ++ [w]) := by
    unfold wayE
    rw [rks_snoc, List.map_append, List.map_append]; rfl
  show wpSs G [_, _] _ _ _
  simp_arith only [G9]
  refine ⟨kyW v (ws ++ [w]), by rw [kyW_snoc]; rfl, w, rfl, by omega, by omega, ?_⟩
  (try simp_arith only [])
  rw [e1]
  refine ⟨by rw [List.length_map, rks_len, hl]; exact len_le (by omega), by rw [List.length_map, hl]; exact len_le (by omega), ?_⟩
  simp only [q_notInI]
  refine ⟨kvs, dct_atI hd, ?_⟩
  cases hv : valD kvs (kyW v (ws ++ [w])) with
  | none =>
    (try simp_arith only [Option.isSome_none])
    refine ⟨d, kvs, _, rfl, rfl, hd, len_lt (by have := P.len; omega), hput (fun us e => ?_) _ _⟩
    rw [hv] at e; cases e
  | some e =>
    obtain ⟨us, _, _, eq⟩ := P.all _ (valD_mem hv)
    have ee : e = wayE us := congrArg Prod.snd eq
    subst ee
    (try simp_arith only [Option.isSome_some])
    refine ⟨kvs, _, dct_atI hd, hv, lt_wayE (if_i (fun hlt => ?_) fun hlt => ?_)⟩
    · refine ⟨d, kvs, _, rfl, rfl, hd, len_lt (by have := P.len; omega), hput (fun us' e => ?_) _ _⟩
      rw [hv] at e
      rw [← wayE_inj (Option.some.inj e)]
      exact List.le_of_lt (of_decide_eq_true hlt)
    · refine hN _ _ _ _ hK hd (P.keep (by omega) fun u w' h1 => (hp u w' h1).imp id fun ⟨e, e'⟩ => ?_)
      subst e e'
      exact ⟨us, hv, List.not_lt.mp fun c => hlt (decide_eq_true c)⟩
theorem waysI_ok {S S1 : DStore} {l h p v : Int} {m c d q r : Nat} {R : List Int → Int → Prop} {kvs kvs0 : List (List L2.Key × D)} {ws : List Int} {rs : List Nat} {d0 d1 d2 : D} {r4 r11 r12 r13 r14 r15 : Option D} {Q : QE} {N bk ct : DEnv → DStore → Prop}
    (hm : m ≤ 6) (hc : c + 7 ≤ 823543) (hp3 : 1 ≤ p ∧ p ≤ 3) (hb : -1000 ≤ l ∧ h ≤ 1000) (hq : S1[q]? = some (.lst (rs.map D.ref ++ [.ref r]))) (hr : S1[r]? = some (.dct kvs0)) (hv : valD kvs0 (kyW v ws) = some (wayE ws)) (hl : ws.length = m) (hw : isWay l h p v ws) (hlv : l ≤ lastP v ws ∧ lastP v ws ≤ h) (hd : S1[d]? = some (.dct kvs)) (hK : Kp S S1) (hS : S.length ≤ d) (P : RP l h p v m c R kvs)
    (hN : ∀ (r11 r12 r13 r14 r15 : Option D) S' kvs, Kp S S' → S'[d]? = some (.dct kvs) → RP l h p v m (c + 7) (fun u w => R u w ∨ (u = ws ∧ (l ≤ w ∧ w ≤ h ∧ lastP v u - p ≤ w ∧ w ≤ lastP v u + p))) kvs → N [some d0, some d1, some d2, some (.ref q), r4, some (.int l), some (.int h), some (.int p), some (.ref d), some (.int (lastP v ws)), some (.int (sumL ws)), r11, r12, r13, r14, r15] S') :
    wpSs G waysI [some d0, some d1, some d2, some (.ref q), r4, some (.int l), some (.int h), some (.int p), some (.ref d), some (.int (lastP v ws)), some (.int (sumL ws)), r11, r12, r13, r14, r15] S1 ⟨N, Q, bk, ct⟩ := by
  show wpSs G [_, _] _ _ _
  have em : atI (rs.map D.ref ++ [D.ref r]) (-1) = some (.ref r) := by
    unfold atI ixN
    rw [if_neg (by decide), if_pos (by simp; omega)]
    simp only [List.length_append, List.length_map, List.length_cons, List.length_nil]
    rw [show ((-1 : Int) + ((rs.length + (0 + 1) : Nat) : Int)).toNat = rs.length by omega]
    show (rs.map D.ref ++ [D.ref r])[rs.length]? = some (.ref r)
    rw [List.getElem?_append_right (by simp)]; simp
  simp_arith only [hq, em]
  refine ⟨kvs0, kyW v ws, _, dct_atI hr, rfl, hv, ?_⟩
  unfold wayE
  (try simp_arith only [])
  rw [if_max, if_min]
  generalize hlo : max l (lastP v ws - p) = lo
  generalize hhi : min h (lastP v ws + p) = hi
  refine ⟨trivial, by constructor <;> omega, by constructor <;> omega, ?_⟩
  refine walk_range (fun i ρ S' => ∃ (r11 r14 r15 : Option D) (kvs : List (List L2.Key × D)), ρ = [some d0, some d1, some d2, some (.ref q), r4, some (.int l), some (.int h), some (.int p), some (.ref d), some (.int (lastP v ws)), some (.int (sumL ws)), r11, some (.tup ((rks ws).map D.int)), some (.tup (ws.map D.int)), r14, r15] ∧ Kp S S' ∧ S'[d]? = some (.dct kvs) ∧ RP l h p v m (c + i) (fun u w => R u w ∨ (u = ws ∧ (l ≤ w ∧ w ≤ h ∧ lastP v u - p ≤ w ∧ w ≤ lastP v u + p) ∧ w < lo + (i : Int))) kvs)
    ⟨_, _, _, kvs, rfl, hK, hd, P.keep (by omega) fun u w h1 => h1.imp id fun ⟨e, h2, h3⟩ => absurd h3 (by subst e; omega)⟩ (fun _ _ _ _ => trivial) (fun i ρ S' hi hp => ?_) (fun ρ S' hp => ?_)
  · obtain ⟨r11, r14, r15, kvs, rfl, hK, hd, P⟩ := hp
    unfold DL.forTurn
    rw [g_name]
    simp only [List.set_cons_succ, List.set_cons_zero]
    refine waysJ_ok hm (by omega) hb hl hw (w := lo + (i : Int)) ⟨by omega, by omega, by omega, by omega⟩ hd hK hS P (R' := fun u w => R u w ∨ (u = ws ∧ (l ≤ w ∧ w ≤ h ∧ lastP v u - p ≤ w ∧ w ≤ lastP v u + p) ∧ w < lo + ((i + 1 : Nat) : Int))) (fun u w' h1 => ?_) (fun r14 r15 S' kvs hK hd P => ⟨_, r14, r15, kvs, rfl, hK, hd, P⟩)
    rcases h1 with h1 | ⟨e1, e3, e4⟩
    · exact .inl (.inl h1)
    by_cases e5 : w' < lo + i
    · exact .inl (.inr ⟨e1, e3, e5⟩)
    · exact .inr ⟨e1, by omega⟩
  · obtain ⟨r11, r14, r15, kvs, rfl, hK, hd, P⟩ := hp
    simp only [s_nilA]
    exact hN _ _ _ _ _ _ kvs hK hd (P.keep (by omega) fun u w' h1 => .inl (h1.imp id fun ⟨e1, e2⟩ => ⟨e1, e2, by subst e1; omega⟩))
theorem last_inI {l h p : Int} : ∀ {ws : List Int} {v : Int}, isWay l h p v ws → l ≤ v ∧ v ≤ h → l ≤ lastP v ws ∧ lastP v ws ≤ h
  | [], v, _, hv => hv
  | w :: ws, v, hw, _ => last_inI (ws := ws) hw.2 ⟨hw.1.1, hw.1.2.1⟩
theorem nodup_val {kvs : List (List L2.Key × D)} (nd : (kvs.map (·.1)).Nodup) {q : List L2.Key × D} (hq : q ∈ kvs) : valD kvs q.1 = some q.2 := by
  induction kvs with
  | nil => cases hq
  | cons x kvs ih =>
    rw [List.map_cons, List.nodup_cons] at nd
    rcases List.mem_cons.mp hq with rfl | hq
    · simp [valD]
    · have hne : x.1 ≠ q.1 := fun e => nd.1 (by rw [e]; exact List.mem_map_of_mem hq)
      have := ih nd.2 hq
      unfold valD at this ⊢
      rw [List.find?_cons_of_neg (by simpa using hne)]
      exact this
theorem waysB_ok {S S1 : DStore} {l h p v : Int} {m q : Nat} {rs : List Nat} {d0 d1 d2 : D} {r4 r8 r9 r10 r11 r12 r13 r14 r15 : Option D} {Q : QE} {N bk ct : DEnv → DStore → Prop}
    (hm : m ≤ 6) (hp3 : 1 ≤ p ∧ p ≤ 3) (hb : -1000 ≤ l ∧ h ≤ 1000) (hv : l ≤ v ∧ v ≤ h) (hK : Kp S S1) (hS : S.length ≤ q) (hq : S1[q]? = some (.lst (rs.map D.ref))) (hl : rs.length = m + 1) (F : FoundR l h p v S1 rs)
    (hN : ∀ (r8 r9 r10 r11 r12 r13 r14 r15 : Option D) S' rs', Kp S S' → S'[q]? = some (.lst (rs'.map D.ref)) → rs'.length = m + 2 → FoundR l h p v S' rs' → N [some d0, some d1, some d2, some (.ref q), r4, some (.int l), some (.int h), some (.int p), r8, r9, r10, r11, r12, r13, r14, r15] S') :
    wpSs G waysB [some d0, some d1, some d2, some (.ref q), r4, some (.int l), some (.int h), some (.int p), r8, r9, r10, r11, r12, r13, r14, r15] S1 ⟨N, Q, bk, ct⟩ := by
  obtain ⟨rs0, r, rfl, hl0⟩ : ∃ rs0 r, rs = rs0 ++ [r] ∧ rs0.length = m := ⟨rs.dropLast, rs.getLast (by intro e; subst e; simp at hl), (List.dropLast_concat_getLast _).symm, by simp [hl]⟩
  have em : atI (rs0.map D.ref ++ [D.ref r]) (-1) = some (.ref r) := by
    unfold atI ixN
    rw [if_neg (by decide), if_pos (by simp; omega)]
    simp only [List.length_append, List.length_map, List.length_cons, List.length_nil]
    rw [show ((-1 : Int) + ((rs0.length + (0 + 1) : Nat) : Int)).toNat = rs0.length by omega]
    show (rs0.map D.ref ++ [D.ref r])[rs0.length]? = some (.ref r)
    rw [List.getElem?_append_right (by simp)]; simp
  obtain ⟨kvs0, hr, W⟩ := F m r (by rw [List.getElem?_append_right (by omega), hl0, Nat.sub_self]; rfl)
  have h7 := pow7 (m := m) (by omega)
  have h7' := pow7 (m := m + 1) (by omega)
  have e7 : 7 ^ (m + 1) = 7 * 7 ^ m := by rw [Nat.pow_succ]; omega
  have lenK := W.len
  obtain ⟨pre, epre, _⟩ := ways_of (v := v) (P := fun _ => True) (kvs := kvs0) fun q hq => let ⟨ws, _, _, e⟩ := W.all q hq; ⟨ws, trivial, e⟩
  subst epre
  have lenP : pre.length ≤ 7 ^ m := by simpa using lenK
  have hq1 : S1[q]? = some (.lst (rs0.map D.ref ++ [.ref r])) := by rw [hq, List.map_append]; rfl
  have hqS := (List.getElem?_eq_some_iff.mp hq).1
  have hr' := kp_app (cs := [Cell.dct []]) _ _ hr
  have hq' := kp_app (cs := [Cell.dct []]) _ _ hq1
  have hd' : (S1 ++ [Cell.dct []])[S1.length]? = some (.dct []) := by simp
  have hK' : Kp S1 (S1 ++ [Cell.dct []]) := kp_app
  show wpSs G [_, _, _] _ _ _
  simp_arith only [hq', em]
  generalize S1 ++ [Cell.dct []] = S2 at *
  generalize hdd : S1.length = d at *
  refine ⟨r, _, rfl, dct_atI hr', ?_⟩
  show wpWalk _ _ _ _ _ _
  refine walk_list (fun i ρ S' => ∃ (r9 r10 r11 r12 r13 r14 r15 : Option D) (kvs : List (List L2.Key × D)), ρ = [some d0, some d1, some d2, some (.ref q), r4, some (.int l), some (.int h), some (.int p), some (.ref d), r9, r10, r11, r12, r13, r14, r15] ∧ Kp S1 S' ∧ S'[d]? = some (.dct kvs) ∧ RP l h p v m (7 * i) (fun us w => us ∈ pre.take i ∧ (l ≤ w ∧ w ≤ h ∧ lastP v us - p ≤ w ∧ w ≤ lastP v us + p)) kvs) ⟨_, _, _, _, _, _, _, [], rfl, hK', hd', ⟨fun q hq => absurd hq (by simp), fun u w h => absurd h.1 (by simp), Nat.le_refl _, List.nodup_nil⟩⟩ (fun _ _ _ _ => trivial) (fun i x ρ S' hx hp => ?_) (fun ρ S' hp => ?_)
  · obtain ⟨r9, r10, r11, r12, r13, r14, r15, kvs, rfl, hK2, hd2, P⟩ := hp
    rw [List.map_map, List.getElem?_map] at hx
    obtain ⟨ws, hws, rfl⟩ := Option.map_eq_some_iff.mp hx
    have hi := (List.getElem?_eq_some_iff.mp hws).1
    have hmem : (kyW v ws, wayE ws) ∈ pre.map (fun ws => (kyW v ws, wayE ws)) := List.mem_map.mpr ⟨ws, List.mem_of_getElem? hws, rfl⟩
    have hv2 := nodup_val W.nd hmem
    obtain ⟨us, hw1, hw2, eus⟩ := W.all _ hmem
    have := wayE_inj (congrArg Prod.snd eus)
    subst this
    have tk : pre.take (i + 1) = pre.take i ++ [ws] := by
      rw [List.take_add_one, hws]; rfl
    unfold DL.forTurn
    simp only [Function.comp, kyW, List.map_cons, List.map_nil, keyD, DL.g_tup, DL.u_tup, DL.gs_cons, DL.gs_nil, DL.g_name, List.set_cons_succ, List.set_cons_zero, List.length_cons, List.length_nil]
    refine ⟨trivial, ?_⟩
    refine waysI_ok (S := S1) (c := 7 * i) hm (by have : i < pre.length := hi; omega) hp3 hb (hK2 _ _ hq1) (hK2 _ _ hr) hv2 hw1 hw2 (last_inI hw2 hv) hd2 hK2 (by omega) P (fun r11 r12 r13 r14 r15 S3 kvs3 hK3 hd3 P3 => ⟨_, _, _, _, _, _, _, kvs3, rfl, hK3, hd3, ?_⟩)
    refine P3.keep (by omega) fun u w h1 => .inl ?_
    rw [tk, List.mem_append, List.mem_singleton] at h1
    rcases h1 with ⟨h1 | h1, h2⟩
    · exact .inl ⟨h1, h2⟩
    · exact .inr ⟨h1, h2⟩
  · obtain ⟨r9, r10, r11, r12, r13, r14, r15, kvs, rfl, hK2, hd2, P⟩ := hp
    rw [List.length_map, List.length_map, List.take_length] at P
    have W2 := RP.full W P (by omega)
    have hq2 := hK2 _ _ hq1
    (try simp_arith only [])
    refine ⟨lat hq2, _, hq2, len_lt (by simp; omega), ?_⟩
    have hqd : q ≠ d := by omega
    refine hN _ _ _ _ _ _ _ _ _ (rs0 ++ [r] ++ [d]) (kp_set (hK.trans hK2) hS) ?_ (by simp; omega) (fun j r' hj => ?_)
    · rw [List.getElem?_set_self (List.getElem?_eq_some_iff.mp hq2).1]
      simp [List.map_append]
    · by_cases hjm : j < (rs0 ++ [r]).length
      · rw [List.getElem?_append_left hjm] at hj
        obtain ⟨kvs', a, b⟩ := F j r' hj
        have : r' ≠ q := fun e => by rw [e, hq] at a; cases a
        exact ⟨kvs', by rw [List.getElem?_set_ne (fun e => this e.symm)]; exact hK2 _ _ a, b⟩
      · have : j = m + 1 := by
          have := (List.getElem?_eq_some_iff.mp hj).1
          simp at this hjm; omega
        subst this
        rw [List.getElem?_append_right (by simp; omega)] at hj
        simp [hl0] at hj
        subst hj
        exact ⟨kvs, by rw [List.getElem?_set_ne hqd]; exact hd2, W2⟩
theorem body10 : ∀ ds S Q, G.fn 10 ds S Q → wpSs G c10 (startD n10.length ds) S { nx := fun _ S' => Q .non S', rt := Q } := by
  rintro ds S Q ⟨l, h, p, v, n, rfl, hn, p1, p3, l0, h0, lv, vh, hQ⟩
  unfold c10 n10 bndD
  simp_arith only [e_dnew1]
  have hc : (S ++ [Cell.dct []])[S.length]? = some (.dct []) := by simp
  refine ⟨trivial, kyW v [], rfl, hc, ?_⟩
  have es : (S ++ [Cell.dct []]).set S.length (.dct [(kyW v [], wayE [])]) = S ++ [.dct [(kyW v [], wayE [])]] := by simp
  have ew : D.tup [.tup [], .tup []] = wayE [] := rfl
  rw [ew, es]
  (repeat (refine And.intro (by first | omega | exact DL.mul_small_left (by omega) (by omega) | exact DL.mul_small_right (by omega) (by omega) | exact DL.div_om (by omega) (by omega) (by omega) | exact DL.cpow1 (by omega) (by omega) | exact ⟨by omega, by omega⟩ | exact DL.len_le (by (try simp only [List.length_map, List.length_append, List.length_cons, List.length_nil]); omega) | exact DL.len_lt (by (try simp only [List.length_map, List.length_append, List.length_cons, List.length_nil]); omega) | trivial | decide) ?_))
  have e1 : (S ++ [Cell.dct [(kyW v [], wayE [])]]).length = S.length + 1 := by simp
  rw [e1]
  have hK0 : Kp S (S ++ [Cell.dct [(kyW v [], wayE [])]] ++ [Cell.lst [D.ref S.length]]) := kp_app.trans kp_app
  have hq0 : (S ++ [Cell.dct [(kyW v [], wayE [])]] ++ [Cell.lst [D.ref S.length]])[S.length + 1]? = some (.lst ([S.length].map D.ref)) := by
    rw [List.getElem?_append_right (by simp)]; simp
  have F0 : FoundR l h p v (S ++ [Cell.dct [(kyW v [], wayE [])]] ++ [Cell.lst [D.ref S.length]]) [S.length] := fun j r hr => by
    cases j with
    | zero =>
      simp at hr
      subst hr
      exact ⟨_, by rw [List.getElem?_append_left (by simp), List.getElem?_append_right (by simp)]; simp, RD.zero l h p v⟩
    | succ j => simp at hr
  generalize S ++ [Cell.dct [(kyW v [], wayE [])]] ++ [Cell.lst [D.ref S.length]] = S0 at *
  refine walk_range (fun i ρ S' => ∃ (r4 r8 r9 r10 r11 r12 r13 r14 r15 : Option D) (rs : List Nat), ρ = [some (.tup [.int l, .int h, .int p]), some (.int v), some (.int n), some (.ref (S.length + 1)), r4, some (.int l), some (.int h), some (.int p), r8, r9, r10, r11, r12, r13, r14, r15] ∧ Kp S S' ∧ S'[S.length + 1]? = some (.lst (rs.map D.ref)) ∧ rs.length = i + 1 ∧ FoundR l h p v S' rs) ⟨_, _, _, _, _, _, _, _, _, [S.length], rfl, hK0, hq0, rfl, F0⟩ (fun _ _ _ _ => trivial) (fun i ρ S' hi hp => ?_) (fun ρ S' hp => ?_)
  · obtain ⟨r4, r8, r9, r10, r11, r12, r13, r14, r15, rs, rfl, hK, hq, hl, F⟩ := hp
    unfold DL.forTurn
    rw [g_name]
    simp only [List.set_cons_succ, List.set_cons_zero]
    exact waysB_ok (m := i) (by omega) ⟨p1, p3⟩ ⟨l0, h0⟩ ⟨lv, vh⟩ hK (by omega) hq hl F fun r8 r9 r10 r11 r12 r13 r14 r15 S' rs' hK hq hl F => ⟨_, r8, r9, r10, r11, r12, r13, r14, r15, rs', rfl, hK, hq, hl, F⟩
  · obtain ⟨r4, r8, r9, r10, r11, r12, r13, r14, r15, rs, rfl, hK, hq, hl, F⟩ := hp
    (try simp_arith only [])
    exact hQ _ rs S' hK (by omega) hq (by omega) F
theorem bodyx5 : ∀ ds S Q E, G.fx 0 ds S Q E → wpSs { G with xc := E } cx5 (startD n5.length ds) S { nx := fun _ S' => Q .non S', rt := Q } := by
  rintro ds S Q E ⟨l, h, p, v, z, L, n, rfl, B, hs, hm, hQ, hE⟩
  have G3' : ({ G with xc := E } : Fns).fn 3 = spWd := rfl
  have G4' : ({ G with xc := E } : Fns).fn 4 = spNext := rfl
  have hX : ({ G with xc := E } : Fns).xc = E := rfl
  generalize ({ G with xc := E } : Fns) = GE at *
  unfold cx5 n5
  by_cases ok : okNw l h p v z L n
  · have hQ := hQ ok
    refine ss_split 1 (fun ρ S' => S' = S ∧ ρ = [some (bndD l h p), some (.int v), some (.int z), some (.int L), some (.int (n : Int)), none, none]) (fun N hN => ?_) ?_
    · show wpSs GE [_] _ _ _
      simp_arith only [G3']
      refine ⟨l, h, p, v, z, L, n, rfl, B, by omega, ?_⟩
      have e : wdS l h p v z L n = "" := (wd_iff _ _ _ _ _ _ _).mpr ok
      rw [e]
      (try simp_arith only [])
      exact hN _ _ ⟨rfl, rfl⟩
    rintro ρ S1 ⟨rfl, rfl⟩
    show wpSs GE [_, _, _] _ _ _
    simp_arith only []
    refine ⟨(n : Int), 0, -1, n, rfl, rfl, rfl, ?_, ?_⟩
    · have := RgC.neg (i := (n : Int)) (j := 0) (by omega) (by omega) (by omega) (by omega)
      rwa [show ((n : Int) - 0).toNat = n by omega] at this
    refine walk_list (fun i ρ S' => ∃ (v' L' : Int) (r6 : Option D) (us : List Int), ρ = [some (bndD l h p), some (.int v'), some (.int z), some (.int L'), some (.int (n : Int)), some (.ref S1.length), r6] ∧ Kp S1 S' ∧ S'[S1.length]? = some (.lst (us.map D.int)) ∧ us.length = i ∧ i ≤ n ∧ BdOk l h p v' z ∧ okNw l h p v' z L' (n - i) ∧ ∀ ws, ws.length = n - i → IsW l h p z v' L' ws → IsW l h p z v L (us ++ ws))
      ⟨v, L, none, [], rfl, kp_app, by simp, rfl, by omega, B, ok, fun ws _ h => h⟩ (fun _ _ _ _ => trivial) (fun i x ρ S' hx hp => ?_) (fun ρ S' hp => ?_)
    · obtain ⟨v', L', r6, us, rfl, hK, hq, hl, hin, B', ok', hall⟩ := hp
      have hi := (List.getElem?_eq_some_iff.mp hx).1
      unfold range3D at hi hx
      rw [List.length_map, List.length_range] at hi
      rw [List.getElem?_map, List.getElem?_range hi] at hx
      cases hx
      obtain ⟨m, hm'⟩ : ∃ m, n - i = m + 1 := ⟨n - i - 1, by omega⟩
      have en : (n : Int) + (i : Int) * -1 = (m : Int) + 1 := by omega
      unfold DL.forTurn
      (try simp_arith only [G4', en])
      rw [hm'] at ok'
      refine ⟨l, h, p, v', z, L', m, rfl, B', hs, by omega, ok', fun w hnx => ?_⟩
      have hw1 := hnx.1.1
      (try simp_arith only [])
      refine ⟨lat hq, _, hq, len_lt (by rw [List.length_map]; omega), ?_⟩
      refine ⟨w, L' - w, _, us ++ [w], rfl, kp_set hK (Nat.le_refl _), by rw [List.map_append]; exact set_get hq, by simp [hl], by omega, ⟨B.p1, B.p2, hw1.1, hw1.2.1, B.lz, B.zh, B.l9, B.h9⟩, by rw [show n - (i + 1) = m by omega]; exact hnx.1.2, fun ws hws hW => ?_⟩
      rw [List.append_assoc]
      refine hall _ (by simp; omega) ⟨?_, hW⟩
      show Nx l h p v' z L' ws.length w
      rw [hws, show n - (i + 1) = m by omega]
      exact hnx
    · obtain ⟨v', L', r6, us, rfl, hK, hq, hl, hin, B', ok', hall⟩ := hp
      unfold range3D at hl
      rw [List.length_map, List.length_range] at hl
      have hW := hall [] (by unfold range3D; rw [List.length_map, List.length_range]; simp) trivial
      rw [List.append_nil] at hW
      (try simp_arith only [hq])
      exact hQ us _ hl hW hK
  · have hE := hE ok
    simp_arith only [G3']
    refine ⟨l, h, p, v, z, L, n, rfl, B, by omega, ?_⟩
    have e : wdS l h p v z L n ≠ "" := fun q => ok ((wd_iff _ _ _ _ _ _ _).mp q)
    (try simp_arith only [])
    refine if_i (fun he => ?_) fun he => ?_
    · (try simp_arith only [hX])
      exact hE
    · exact absurd he (by simp [e])
theorem body11 : ∀ ds S Q, G.fn 11 ds S Q → wpSs G c11 (startD n11.length ds) S { nx := fun _ S' => Q .non S', rt := Q } := by
  rintro ds S Q ⟨l, h, p, v, z, n, rfl, ⟨B, l12, h12, p3⟩, hn, hQ⟩
  have := B.p1; have := B.p2; have := B.lv; have := B.vh; have := B.lz; have := B.zh; have := B.l9; have := B.h9
  unfold c11 n11 bndD
  simp_arith only []
  unfold spreadD at hQ
  refine ⟨trivial, mul_small_left (by omega) (by omega), if_i (fun ht => ?_) fun ht => ?_⟩
  · rw [if_pos ht] at hQ
    (try simp_arith only [])
    exact hQ
  · rw [if_neg ht] at hQ
    (try simp_arith only [])
    (repeat (refine And.intro (by first | omega | exact DL.mul_small_left (by omega) (by omega) | exact DL.mul_small_right (by omega) (by omega) | exact DL.div_om (by omega) (by omega) (by omega) | exact DL.cpow1 (by omega) (by omega) | exact ⟨by omega, by omega⟩ | exact DL.len_le (by (try simp only [List.length_map, List.length_append, List.length_cons, List.length_nil]); omega) | exact DL.len_lt (by (try simp only [List.length_map, List.length_append, List.length_cons, List.length_nil]); omega) | trivial | decide) ?_))
    refine walk_range (fun i ρ S' => (∃ r4, ρ = [some (bndD l h p), some (.int v), some (.int z), some (.int n), r4, some (.int l), some (.int h), some (.int p), some (.int (sumN (btc p l v z n) i)), some (.int (sumN (tpc h p v z n) i))]) ∧ S' = S) ⟨⟨_, rfl⟩, rfl⟩ (fun _ _ _ _ => trivial) (fun i ρ S' hi hp => ?_) (fun ρ S' hp => ?_)
    · obtain ⟨⟨r4, rfl⟩, rfl⟩ := hp
      unfold DL.forTurn
      (try simp_arith only [])
      rw [if_min3, if_max3]
      refine ⟨mul_small_left (by omega) (by omega), mul_small_left (by omega) (by omega), mul_small_left (by omega) (by omega), mul_small_left (by omega) (by omega), ⟨some (.int (1 + (i : Int))), ?_⟩, trivial⟩
      simp only [sumN, tpc, btc]
      rw [show (1 : Int) + i = (i : Int) + 1 by omega, show (n : Int) - ((i : Int) + 1) = (n : Int) - 1 - i by omega]
    · obtain ⟨⟨r4, rfl⟩, rfl⟩ := hp
      (try simp_arith only [])
      rw [show ((n : Int) + 1 - 1).toNat = n by omega]
      exact hQ
theorem body14 : ∀ ds S Q, G.fn 14 ds S Q → wpSs G c14 (startD n14.length ds) S { nx := fun _ S' => Q .non S', rt := Q } := by
  rintro ds S Q ⟨l, h, p, v, z, L, n, rfl, B, hs, hm, hQ, hE⟩
  unfold c14 n14
  simp_arith only [GX0]
  refine ⟨trivial, l, h, p, v, z, L, n, rfl, B, hs, hm, fun ok ws S' e1 e2 e3 => ?_, fun ok => ?_⟩
  · unfold setO
    (try simp_arith only [])
    exact hQ ok ws S' e1 e2 e3
  · have hx : (S ++ [Cell.exn "NoWay" []])[S.length]? = some (.exn "NoWay" []) := by simp
    show 5 < 9 ∧ _
    refine ⟨by decide, ?_⟩
    rw [if_neg (by simp [DL.isNon])]
    refine ⟨S.length, _, _, rfl, hx, ?_⟩
    refine ⟨S.length, _, _, rfl, hx, ?_⟩
    rw [if_pos (by decide +kernel), if_pos (by decide +kernel)]
    exact hE ok _ kp_app
theorem okP_intsI : ∀ xs : List Int, (∀ x ∈ xs, -100000 ≤ x ∧ x ≤ 100000) → okPs (xs.map .int) = true ∧ szPs (xs.map .int) = 18 * xs.length
  | [], _ => ⟨rfl, rfl⟩
  | x :: xs, h => by
    obtain ⟨h1, h2⟩ := okP_intsI xs fun y hy => h y (List.mem_cons_of_mem _ hy)
    have hx := h x (by simp)
    have e : okP (.int x) = true := decide_eq_true (by omega)
    refine ⟨?_, ?_⟩
    · simp only [List.map_cons, okPs, e, h1]; rfl
    · simp only [List.map_cons, szPs, szP, h2, List.length_cons]; omega
theorem rep_intsI {S : DStore} {m : Bool} {xs : List Int} {Q : QE} (hl : xs.length ≤ 1000) (h : ∀ x ∈ xs, -100000 ≤ x ∧ x ≤ 100000) (q : Q (.str (PyData.tuple (xs.map .int)).shown) S) : biD .repr1 m [.tup (xs.map D.int)] S Q := by
  obtain ⟨h1, h2⟩ := okP_intsI xs h
  refine ⟨.tuple (xs.map .int), ?_, rep_ok2 h1 ?_ ?_, q⟩
  · show (purs _).map _ = _
    rw [purs_intsI]; rfl
  · simp only [szP]; omega
  · simp only [PyData.depth, depth_i]; decide
theorem rep_none {S : DStore} {m : Bool} {Q : QE} (q : Q (.str (PyData.str "none").shown) S) : biD .repr1 m [.str "none"] S Q :=
  repr4 (p := .str "none") rfl (by decide +kernel) q
theorem told_rep {S : DStore} {l h p v z L : Int} {n : Nat} {Q : QE} (B : Bd12 l h p v z) (hn : n ≤ 1000)
    (h1 : okNw l h p v z L n → ∀ ws S', ws.length = n → IsW l h p z v L ws → Kp S S' → Q (.str (PyData.tuple (ws.map .int)).shown) S')
    (h2 : ¬ okNw l h p v z L n → ∀ S', Kp S S' → Q (.str (PyData.str "none").shown) S') : spToldW [bndD l h p, .int v, .int z, .int L, .int (n : Int)] S fun d S1 => biD .repr1 false [d] S1 Q := by
  have := B.l12; have := B.h12
  refine ⟨l, h, p, v, z, L, n, rfl, B.b, by omega, by omega, fun ok ws S' e1 e2 e3 => ?_, fun ok S' e3 => rep_none (h2 ok S' e3)⟩
  exact rep_intsI (by omega) (fun w hw => by have := e2.bd w hw; omega) (h1 ok ws S' e1 e2 e3)
theorem body15 : ∀ ds S Q, G.fn 15 ds S Q → wpSs G c15 (startD n15.length ds) S { nx := fun _ S' => Q .non S', rt := Q } := by
  rintro ds S Q ⟨n, T, rfl, hP, hT, hQ⟩
  unfold c15 n15
  simp_arith only [G8]
  refine ⟨n, T, 3, rfl, hP, by omega, by omega, by omega, fun l h p v z S1 B l4 _ _ h4 p3 hP1 hF1 => ?_⟩
  have b1 := B.b.p1; have b2 := B.b.lv; have b3 := B.b.vh; have b4 := B.b.lz; have b5 := B.b.zh
  (try simp_arith only [G10])
  refine ⟨trivial, l, h, p, v, 6, rfl, by decide, B.b.p1, p3, by omega, by omega, B.b.lv, B.b.vh, fun q rs S2 k2 _ hq hl F => ?_⟩
  refine ⟨_, by rw [lstOf_ref, hq]; rfl, ?_⟩
  refine walk_list (fun i ρ S' => ∃ (r4 r5 r6 r7 : Option D), ρ = [some (.ref n), some (bndD l h p), some (.int v), some (.int z), r4, r5, r6, r7] ∧ Kp S2 S') ⟨_, _, _, _, rfl, fun _ _ h => h⟩ (fun i ρ S' ⟨_, _, _, _, _, k⟩ => by show lstOf S' (.ref q) = _; rw [lstOf_ref, k _ _ hq]; rfl) (fun i x ρ S' hx hp => ?_) (fun ρ S' hp => ?_)
  · obtain ⟨r4, r5, r6, r7, rfl, hK⟩ := hp
    have hi : i < 7 := by
      have := (List.getElem?_eq_some_iff.mp hx).1
      rw [enum_len, List.length_map, hl] at this; exact this
    obtain ⟨kvs, hr, W⟩ := F i rs[i] (List.getElem?_eq_getElem (by omega))
    rw [enum_get (x := .ref rs[i]) (by rw [List.getElem?_map, List.getElem?_eq_getElem (by omega)]; rfl)] at hx
    cases hx
    generalize rs[i] = r at *
    unfold DL.forTurn
    (try simp_arith only [])
    refine ⟨trivial, ⟨by decide, by decide⟩, ⟨by decide, by decide⟩, ?_⟩
    refine walk_range (fun j ρ S' => ∃ (r6 r7 : Option D), ρ = [some (.ref n), some (bndD l h p), some (.int v), some (.int z), some (.int (i : Int)), some (.ref r), r6, r7] ∧ Kp S2 S') ⟨_, _, rfl, hK⟩ (fun _ _ _ _ => trivial) (fun j ρ S' hj hp => ?_) (fun ρ S' hp => ?_)
    · obtain ⟨r6, r7, rfl, hK⟩ := hp
      have hr' := hK _ _ hr
      generalize hL : (-20 : Int) + (j : Int) = L
      unfold DL.forTurn
      by_cases ok : okNw l h p v z L i
      · obtain ⟨us0, u1, u2, u3, u4⟩ := (reach_iff b1 b4 b5 i v L b2 b3).mpr ok
        obtain ⟨us, e, _⟩ := W.low us0 u1 u2
        have ek : kyW v us0 = [.inl z, .inl L] := by unfold kyW; rw [u3, u4]
        rw [ek] at e
        (try simp_arith only [G14])
        refine ⟨⟨kvs, dct_atI hr'⟩, kvs, [.inl z, .inl L], dct_atI hr', rfl, ?_⟩
        rw [e]
        show ixD _ (wayE us) _ _
        unfold wayE
        (try simp_arith only [G14])
        refine told_rep B (by omega) (fun _ ws S3 e1 e2 e3 => ?_) fun no => absurd ok no
        have := W.is b1 ⟨b2, b3⟩ ⟨b4, b5⟩ e1 e2 ok
        rw [e] at this
        obtain rfl := wayE_inj (Option.some.inj this)
        (try simp_arith only [])
        refine rep_intsI (by omega) (fun w hw => by have := e2.bd w hw; have := B.l12; have := B.h12; omega) ?_
        (try simp_arith only [])
        exact ⟨_, _, rfl, hK.trans e3⟩
      · have e := W.no b1 ⟨b2, b3⟩ ⟨b4, b5⟩ ok
        (try simp_arith only [G14])
        refine ⟨⟨kvs, dct_atI hr'⟩, kvs, [.inl z, .inl L], dct_atI hr', rfl, ?_⟩
        rw [e]
        show ixD _ (D.tup [.tup [], .str "none"]) _ _
        (try simp_arith only [G14])
        refine told_rep B (by omega) (fun yes => absurd yes ok) fun _ S3 e3 => ?_
        (try simp_arith only [])
        refine rep_none ?_
        (try simp_arith only [])
        exact ⟨_, _, rfl, hK.trans e3⟩
    · obtain ⟨r6, r7, rfl, hK⟩ := hp
      (try simp_arith only [])
      exact ⟨_, _, _, _, rfl, hK⟩
  · obtain ⟨r4, r5, r6, r7, rfl, hK⟩ := hp
    (try simp_arith only [])
    exact hQ _ (hP1.keep (k2.trans hK)) (hF1.trans (k2.trans hK).fr)
theorem le_pairI {a b c d : Int} (h : ([a, b] : List Int) ≤ [c, d]) : a ≤ c := by
  refine Int.not_lt.mp fun q => ?_
  exact absurd h (List.not_le.mpr (List.cons_lt_cons_iff.mpr (.inl q)))
theorem min_row {cs : List Int} {rows : List (List Int)} {w1 : Int} (hp : rows.Perm (cs.map fun w => [rankI w, w])) (hs : rows.Pairwise (· ≤ ·)) (hne : w1 ∈ cs) : ∃ w0 rest, rows = [rankI w0, w0] :: rest ∧ w0 ∈ cs ∧ ∀ w ∈ cs, absI w0 ≤ absI w := by
  cases rows with
  | nil =>
    have := hp.length_eq
    cases cs with
    | nil => cases hne
    | cons x cs => simp at this
  | cons r rest =>
    have hm : r ∈ cs.map fun w => [rankI w, w] := hp.mem_iff.mp (List.mem_cons_self ..)
    obtain ⟨w0, h0, rfl⟩ := List.mem_map.mp hm
    refine ⟨w0, rest, rfl, h0, fun w hw => ?_⟩
    have hw' : [rankI w, w] ∈ ([rankI w0, w0] :: rest) := hp.mem_iff.mpr (List.mem_map.mpr ⟨w, hw, rfl⟩)
    have hle : rankI w0 ≤ rankI w := by
      rcases List.mem_cons.mp hw' with e | hw'
      · simp only [List.cons.injEq, and_true] at e
        omega
      · exact le_pairI ((List.pairwise_cons.mp hs).1 _ hw')
    refine Int.not_lt.mp fun q => ?_
    have := rank_lt q
    omega
theorem body16 : ∀ ds S Q, G.fn 16 ds S Q → wpSs G c16 (startD n16.length ds) S { nx := fun _ S' => Q .non S', rt := Q } := by
  rintro ds S Q ⟨l, h, p, v, z, L, n, rfl, B, hn, ok, hQ⟩
  have := B.l12; have := B.h12; have := B.p3
  have hp1 := B.b.p1
  unfold c16 n16 bndD
  simp_arith only []
  (repeat (refine And.intro (by first | omega | exact DL.mul_small_left (by omega) (by omega) | exact DL.mul_small_right (by omega) (by omega) | exact DL.div_om (by omega) (by omega) (by omega) | exact DL.cpow1 (by omega) (by omega) | exact ⟨by omega, by omega⟩ | exact DL.len_le (by (try simp only [List.length_map, List.length_append, List.length_cons, List.length_nil]); omega) | exact DL.len_lt (by (try simp only [List.length_map, List.length_append, List.length_cons, List.length_nil]); omega) | trivial | decide) ?_))
  generalize hq0 : S.length = q0
  refine walk_range (fun i ρ S' => ∃ (v' L' : Int) (r5 r11 r12 r13 : Option D) (us : List Int), ρ = [some (bndD l h p), some (.int v), some (.int z), some (.int L'), some (.int (n : Int)), r5, some (.int l), some (.int h), some (.int p), some (.ref q0), some (.int v'), r11, r12, r13] ∧ Kp S S' ∧ q0 < S'.length ∧ S'[q0]? = some (.lst (us.map D.int)) ∧ us.length = i ∧ i ≤ n ∧ BdOk l h p v' z ∧ okNw l h p v' z L' (n - i) ∧ ∀ ws, ws.length = n - i → IsW l h p z v' L' ws → IsW l h p z v L (us ++ ws))
    ⟨v, L, _, _, _, _, [], rfl, kp_app, by simp [hq0], by subst hq0; simp, rfl, by omega, B.b, ok, fun ws _ h => h⟩ (fun _ _ _ _ => trivial) (fun i ρ S' hi hp => ?_) (fun ρ S' hp => ?_)
  · obtain ⟨v', L', r5, r11, r12, r13, us, rfl, hK, hlt, hq, hl, hin, B', ok', hall⟩ := hp
    obtain ⟨m, hm'⟩ : ∃ m, n - i = m + 1 := ⟨n - i - 1, by omega⟩
    rw [hm'] at ok'
    obtain ⟨wx, fx⟩ := Fe.ex B' ok'
    have := B'.lv; have := B'.vh
    unfold DL.forTurn
    have em : (n : Int) - (0 + (i : Int)) - 1 = (m : Int) := by omega
    have em' : (n : Int) - (i : Int) - 1 = (m : Int) := by omega
    (try simp_arith only [em, em'])
    rw [if_max, if_min]
    generalize hlo : max l (v' - p) = lo
    generalize hhi : min h (v' + p) = hi
    refine ⟨⟨by omega, by omega⟩, ⟨by omega, by omega⟩, ?_⟩
    have hq1 : (S' ++ [Cell.lst []])[S'.length]? = some (.lst []) := by simp
    have hqo := kp_app (cs := [Cell.lst []]) _ _ hq
    have hK1 : Kp S' (S' ++ [Cell.lst []]) := kp_app
    generalize S' ++ [Cell.lst []] = S1 at *
    generalize hqq : S'.length = q1 at *
    refine walk_range (fun j ρ S2 => ∃ (r5 r11 : Option D) (cs : List Int), ρ = [some (bndD l h p), some (.int v), some (.int z), some (.int L'), some (.int (n : Int)), r5, some (.int l), some (.int h), some (.int p), some (.ref q0), some (.int v'), r11, some (.int (m : Int)), some (.ref q1)] ∧ Kp S' S2 ∧ S2[q1]? = some (.lst (cs.map fun w => tI [rankI w, w])) ∧ cs.length ≤ j ∧ ∀ w, w ∈ cs ↔ Fe l h p v' z L' m w ∧ w < lo + (j : Int))
      ⟨_, _, [], rfl, hK1, hq1, Nat.le_refl _, fun w => ⟨fun h => (nomatch h), fun ⟨f, hw⟩ => absurd f.1 (by omega)⟩⟩ (fun _ _ _ _ => trivial) (fun j ρ S2 hj hp => ?_) (fun ρ S2 hp => ?_)
    · obtain ⟨r5, r11, cs, rfl, hK2, hq2, hcl, hmem⟩ := hp
      unfold DL.forTurn
      generalize hw0 : lo + (j : Int) = w at *
      (try simp_arith only [G12, G9])
      refine ⟨l, h, p, w, z, L' - w, m, rfl, ⟨⟨B'.p1, B'.p2, by omega, by omega, B'.lz, B'.zh, B'.l9, B'.h9⟩, B.l12, B.h12, B.p3⟩, by omega, ?_⟩
      have hfe : Fe l h p v' z L' m w ↔ wdS l h p w z (L' - w) m = "" := ⟨fun f => (wd_iff _ _ _ _ _ _ _).mpr f.2, fun e => ⟨by omega, (wd_iff _ _ _ _ _ _ _).mp e⟩⟩
      (try simp_arith only [G9])
      refine if_i (fun he => ?_) fun he => ?_
      · refine ⟨lat hq2, w, rfl, by omega, by omega, _, hq2, len_lt (by rw [List.length_map]; omega), ?_⟩
        refine ⟨r5, _, cs ++ [w], rfl, kp_set hK2 (by omega), by rw [List.map_append]; exact set_get hq2, by simp; omega, fun w' => ?_⟩
        rw [List.mem_append, List.mem_singleton, hmem w']
        refine ⟨fun h => ?_, fun ⟨f, hw⟩ => ?_⟩
        · rcases h with ⟨f, h⟩ | rfl
          · exact ⟨f, by omega⟩
          · exact ⟨hfe.mpr he, by omega⟩
        · by_cases e : w' = w
          · exact .inr e
          · exact .inl ⟨f, by omega⟩
      · refine ⟨r5, _, cs, rfl, hK2, hq2, by omega, fun w' => ?_⟩
        rw [hmem w']
        refine ⟨fun ⟨f, h⟩ => ⟨f, by omega⟩, fun ⟨f, hw⟩ => ⟨f, ?_⟩⟩
        by_cases e : w' = w
        · subst e
          exact absurd (hfe.mp f) he
        · omega
    · obtain ⟨r5, r11, cs, rfl, hK2, hq2, hcl, hmem⟩ := hp
      have hx : wx ∈ cs := (hmem wx).mpr ⟨fx, by have := fx.1; omega⟩
      (try simp_arith only [])
      show ∃ rows : List (List Int), _
      refine ⟨cs.map fun w => [rankI w, w], by rw [lstOf_ref, hq2, List.map_map]; rfl, fun r hr => ?_, fun rows hp hs => ?_⟩
      · obtain ⟨w, _, rfl⟩ := List.mem_map.mp hr
        simp
      obtain ⟨w0, rest, rfl, hw0, hmin⟩ := min_row hp hs hx
      have f0 := ((hmem w0).mp hw0).1
      have nx : Nx l h p v' z L' m w0 := ⟨f0, fun w' f => hmin w' ((hmem w').mpr ⟨f, by have := f.1; omega⟩)⟩
      have hq3 := hK2 _ _ hq
      have et : tI [rankI w0, w0] = .tup [.int (rankI w0), .int w0] := rfl
      rw [List.map_cons, et]
      (try simp_arith only [newL, hq3])
      refine ⟨lat hq3, len_lt (by rw [List.length_map]; omega), w0, L' - w0, _, _, _, _, us ++ [w0], rfl, kp_set (hK.trans hK2) (by omega), ?_, by rw [List.map_append]; exact set_get hq3, by simp [hl], by omega, ⟨B'.p1, B'.p2, f0.1.1, f0.1.2.1, B'.lz, B'.zh, B'.l9, B'.h9⟩, by rw [show n - (i + 1) = m by omega]; exact f0.2, fun ws hws hW => ?_⟩
      · rw [List.length_set]
        exact (List.getElem?_eq_some_iff.mp hq3).1
      · rw [List.append_assoc]
        refine hall _ (by simp; omega) ⟨?_, hW⟩
        show Nx l h p v' z L' ws.length w0
        rw [hws, show n - (i + 1) = m by omega]
        exact nx
  · obtain ⟨v', L', r5, r11, r12, r13, us, rfl, hK, hlt, hq, hl, hin, B', ok', hall⟩ := hp
    have hl2 : us.length = n := by omega
    have hW := hall [] (by rw [List.length_nil]; omega) trivial
    rw [List.append_nil] at hW
    (try simp_arith only [hq])
    exact hQ us _ hl2 hW hK
theorem ne_none {S : DStore} {xs : List Int} {QB : Bool → Prop} (q : QB true) : cmpD .NotEq S (.tup (xs.map D.int)) (.str "none") QB := by
  refine ⟨.tuple (xs.map .int), .str "none", ?_, rfl, ?_, by decide +kernel, ?_⟩
  · show (purs _).map _ = _
    rw [purs_intsI]; rfl
  · have : PyData.depthAll (xs.map PyData.int) = 0 := depth_ints xs
    simp only [SeqAt.shaped, PyData.canLay0, PyData.depth, lay_ints, this, Bool.true_and]
    decide
  · exact q
theorem repW {S : DStore} {l h p v z L : Int} {ws : List Int} {m : Nat} {Q : QE} (B : Bd12 l h p v z) (hm : m ≤ 1000) (e1 : ws.length = m) (e2 : IsW l h p z v L ws) (q : Q (.str (PyData.tuple (ws.map .int)).shown) S) : biD .repr1 false [.tup (ws.map D.int)] S Q :=
  rep_intsI (by omega) (fun w hw => by have := e2.bd w hw; have := B.l12; have := B.h12; omega) q
theorem body17 : ∀ ds S Q, G.fn 17 ds S Q → wpSs G c17 (startD n17.length ds) S { nx := fun _ S' => Q .non S', rt := Q } := by
  rintro ds S Q ⟨n, rfl, hP, hQ⟩
  unfold c17 n17
  simp_arith only [G15]
  refine ⟨n, 0, rfl, hP, by omega, fun S1 hP1 _ => ?_⟩
  (try simp_arith only [])
  (repeat (refine And.intro (by first | omega | exact DL.mul_small_left (by omega) (by omega) | exact DL.mul_small_right (by omega) (by omega) | exact DL.div_om (by omega) (by omega) (by omega) | exact DL.cpow1 (by omega) (by omega) | exact ⟨by omega, by omega⟩ | exact DL.len_le (by (try simp only [List.length_map, List.length_append, List.length_cons, List.length_nil]); omega) | exact DL.len_lt (by (try simp only [List.length_map, List.length_append, List.length_cons, List.length_nil]); omega) | trivial | decide) ?_))
  refine walk_range (fun i ρ S' => ∃ (r1 r2 r3 r4 r5 r6 r7 r8 : Option D), ρ = [some (.ref n), r1, r2, r3, r4, r5, r6, r7, r8] ∧ Pot n (5 + 7 * i) S') ⟨_, _, _, _, _, _, _, _, rfl, hP1.mono (by omega)⟩ (fun _ _ _ _ => trivial) (fun i ρ S' hi hp => ?_) (fun ρ S' hp => ?_)
  · obtain ⟨r1, r2, r3, r4, r5, r6, r7, r8, rfl, hP⟩ := hp
    unfold DL.forTurn
    (try simp_arith only [G8])
    refine ⟨n, _, 12, rfl, hP, by omega, by omega, by omega, fun l h p v z S2 B _ _ _ _ p3 hP2 _ => ?_⟩
    (try simp_arith only [G7])
    refine ⟨trivial, takeP hP2 (by omega) (by omega) (by omega) fun x1 S3 a1 a2 hP3 _ _ => ?_⟩
    (try simp_arith only [G13])
    refine ⟨l, h, p, v, z, x1 - 200, 60, rfl, B, by decide, ?_⟩
    generalize hL : x1 - 200 = L
    (try simp_arith only [])
    cases hf : fewO l h p v z L 60 with
    | none =>
      (try simp_arith only [optD, DL.isNon])
      exact ⟨_, _, _, _, _, _, _, _, rfl, hP3.mono (by omega)⟩
    | some k =>
      have hk : k ≤ 60 := (fewO_ok hf).1
      (try simp_arith only [optD, DL.isNon, G7])
      refine takeP hP3 (by omega) (by omega) (by omega) fun x2 S4 b1 b2 hP4 _ _ => ?_
      obtain ⟨x2', rfl⟩ : ∃ x2' : Nat, x2 = x2' := ⟨x2.toNat, by omega⟩
      have ek : (k : Int) + (x2' : Int) = ((k + x2' : Nat) : Int) := by omega
      (try simp_arith only [G12, ek])
      generalize hm : k + x2' = m at *
      refine ⟨l, h, p, v, z, L, m, rfl, B, by omega, ?_⟩
      (try simp_arith only [])
      refine if_i (fun he => ?_) fun he => ?_
      · have ok := (wd_iff _ _ _ _ _ _ _).mp he
        rw [G16]
        refine ⟨l, h, p, v, z, L, m, rfl, B, by omega, ok, fun ws S5 w1 w2 k5 => ?_⟩
        rw [G14]
        refine told_rep B (by omega) (fun _ us S6 u1 u2 k6 => ?_) fun no => absurd ok no
        obtain rfl := u2.uniq w2 (u1.trans w1.symm)
        refine repW B (by omega) u1 u2 ?_
        (try simp_arith only [])
        refine ne_none ?_
        rw [if_pos rfl, G5]
        refine ⟨l, h, p, v, z, L, m, rfl, B.b, by have := B.l12; have := B.h12; omega, by omega, ok, fun us2 S7 x1 x2 k7 => ?_⟩
        obtain rfl := u2.uniq x2 (u1.trans x1.symm)
        refine repW B (by omega) u1 u2 (repW B (by omega) u1 u2 ?_)
        (try simp_arith only [])
        exact ⟨_, _, _, _, _, _, _, _, rfl, (((hP4.keep k5).keep k6).keep k7).mono (by omega)⟩
      · have no : ¬ okNw l h p v z L m := fun ok => he ((wd_iff _ _ _ _ _ _ _).mpr ok)
        rw [G14]
        refine told_rep B (by omega) (fun ok => absurd ok no) fun _ S6 k6 => rep_none ?_
        (try simp_arith only [])
        refine rep_none (rep_none ?_)
        (try simp_arith only [])
        exact ⟨_, _, _, _, _, _, _, _, rfl, (hP4.keep k6).mono (by omega)⟩
  · obtain ⟨r1, r2, r3, r4, r5, r6, r7, r8, rfl, hP⟩ := hp
    (try simp_arith only [])
    exact hQ _
theorem body18 : ∀ ds S Q, spLaw ds S Q → wpSs G c18 (startD n18.length ds) S { nx := fun _ S' => Q .non S', rt := Q } := by
  rintro ds S Q ⟨ns, rfl, hns, hQ⟩
  unfold c18 n18
  simp_arith only [List.length_map]
  have hc1 : 1 ≤ (if (if (ns.length : Int) < 4 then (ns.length : Int) else 4) > 1 then (if (ns.length : Int) < 4 then (ns.length : Int) else 4) else 1) ∧ (if (if (ns.length : Int) < 4 then (ns.length : Int) else 4) > 1 then (if (ns.length : Int) < 4 then (ns.length : Int) else 4) else 1) ≤ 4 := by split <;> split <;> omega
  generalize (if (if (ns.length : Int) < 4 then (ns.length : Int) else 4) > 1 then (if (ns.length : Int) < 4 then (ns.length : Int) else 4) else 1) = cells at *
  (repeat (refine And.intro (by first | omega | exact DL.mul_small_left (by omega) (by omega) | exact DL.mul_small_right (by omega) (by omega) | exact DL.div_om (by omega) (by omega) (by omega) | exact DL.cpow1 (by omega) (by omega) | exact ⟨by omega, by omega⟩ | exact DL.len_le (by (try simp only [List.length_map, List.length_append, List.length_cons, List.length_nil]); omega) | exact DL.len_lt (by (try simp only [List.length_map, List.length_append, List.length_cons, List.length_nil]); omega) | trivial | decide) ?_))
  refine gather_inv (fun i acc S' => acc = (List.replicate i true).map D.bl) (by rw [rangeD_eq, List.length_map, rng_len]; exact len_le (by omega)) rfl (fun i acc S' h => ⟨trivial, by rw [h]; simp⟩) (fun i x acc S' hx h Nn h1 h2 => ?_) (fun acc S' h => ?_)
  · subst h
    rw [rangeD_eq] at hx
    rw [List.getElem?_map] at hx
    obtain ⟨k, hk, rfl⟩ := Option.map_eq_some_iff.mp hx
    have hk := mem_rng.mp (List.mem_of_getElem? hk)
    unfold lcTurn
    (try simp_arith only [G6])
    refine handP (by omega) (by omega) fun n S1 hP _ _ => ?_
    (try simp_arith only [G17])
    refine ⟨n, rfl, hP, fun S2 => h1 _ _ ?_⟩
    rw [show List.replicate (i + 1) true = List.replicate i true ++ [true] from List.replicate_succ', List.map_append]; rfl
  · subst h
    (try simp_arith only [])
    rw [f_allB]
    have : (List.replicate (rangeD 0 cells).length true).all id = true := by simp
    rw [this]
    exact hQ _
end Law_k28
namespace Law_k28
open PySem PySem.Spec PyProof.Rows L2 DL
theorem kb5_0 {K : PySem.W.Frag} {kV dc pm cd ct : Value} {an : Option Addr} : KBinds K (PySem.W.fnOf "way" "way" (L2.defArgs s5) (L2.defBody s5) (L2.defScope s5) .none kV dc pm an cd ct) p5 ["n", "length", "z", "v", "bounds"] (gK .none 5 [4, 3, 2, 1, 0]) (gK .non 5 [4, 3, 2, 1, 0]) :=
  kb_kw (fun h => nomatch h) fun us ws h1 h2 => match us, ws, h1, h2 with | [], [_, _, _, _, _], _, _ => rfl
set_option maxHeartbeats 8000000 in
theorem all_mk {l : PySem.W.OpenLaw} {w : World} {K : PySem.W.Frag} {h : Heap} {mg : Str → Option Value} {fa : Addr} (X : K.In h) (Gn : h.Ns mainGlobals mg) (hfa : mg "law" = some (.ref fa))
    {f0 f1 f2 f3 f4 f5 f6 f7 f8 f9 f10 f11 f12 f13 f14 f15 f16 f17 f18 : Addr} {od0 an0 od1 an1 od2 an2 od3 an3 od4 an4 od5 an5 od6 an6 od7 an7 od8 an8 od9 an9 od10 an10 od11 an11 od12 an12 od13 an13 od14 an14 od15 an15 od16 an16 od17 an17 od18 an18 : Option Addr} {sl0 sl1 sl2 sl3 sl4 sl5 sl6 sl7 sl8 sl9 sl10 sl11 sl12 sl13 sl14 sl15 sl16 sl17 sl18 : Array (Option Value)} {oc0 kV0 dc0 pm0 cd0 ct0 oc1 kV1 dc1 pm1 cd1 ct1 oc2 kV2 dc2 pm2 cd2 ct2 oc3 kV3 dc3 pm3 cd3 ct3 oc4 kV4 dc4 pm4 cd4 ct4 oc5 kV5 dc5 pm5 cd5 ct5 oc6 kV6 dc6 pm6 cd6 ct6 oc7 kV7 dc7 pm7 cd7 ct7 oc8 kV8 dc8 pm8 cd8 ct8 oc9 kV9 dc9 pm9 cd9 ct9 oc10 kV10 dc10 pm10 cd10 ct10 oc11 kV11 dc11 pm11 cd11 ct11 oc12 kV12 dc12 pm12 cd12 ct12 oc13 kV13 dc13 pm13 cd13 ct13 oc14 kV14 dc14 pm14 cd14 ct14 oc15 kV15 dc15 pm15 cd15 ct15 oc16 kV16 dc16 pm16 cd16 ct16 oc17 kV17 dc17 pm17 cd17 ct17 oc18 kV18 dc18 pm18 cd18 ct18 : Value}
    {XB0 : Addr}
    (aXB0 : PySem.W.nsIn K mainGlobals "Lost" = some (some (.ref XB0))) (bXB0 : xbB K XB0 = true) (iXB0 : PySem.W.findCls K (.ref XB0) (.type "type") "__init__" = some (.val (.builtin "LookupError.__init__")))
    {XC0 XF0 XN0 : Addr} {xnm0 xq0 : Str} {xbs0 xbm0 xsub0 : List Value} {xsn0 : List Str} {xab0 : Bool} {xcol0 : Option Bool} {xdd0 xod0 xan0 : Option Addr} {xk0_0 xk1_0 xk2_0 xk3_0 xk5_0 : Option Value} {xoc0 xkV0 xdc0 xpm0 xcd0 xct0 : Value} {xsl0 : Array (Option Value)}
    (aX0 : PySem.W.nsIn K mainGlobals "NoWay" = some (some (.ref XC0))) (lX0 : K.lookup XC0 = some (excClassObj xnm0 xq0 XC0 XN0 xbs0 xbm0 true xsn0 xsub0 xab0 xcol0 xdd0 xk0_0 xk1_0 xk2_0 xk3_0 xk5_0 "LookupError.__new__")) (rX0 : refsLE xbm0 = true)
    (fX0 : PySem.W.findIn K (.ref XC0) "__init__" = some (some (.ref XF0))) (mX0 : K.lookup XF0 = some ⟨xoc0, xod0, .func (PySem.W.fnOf "__init__" "NoWay.__init__" (L2.defArgs sx0) (L2.defBody sx0) (L2.defScope sx0) .none xkV0 xdc0 xpm0 xan0 xcd0 xct0), xsl0⟩) (dX0 : PySem.W.codeIn K xcd0 "NoWay.__init__" = true) (kX0 : PySem.W.keepIn K (.ref XF0) = true) (bX0 : xzB K XC0 XF0 = true)
    (xsub : subB K ["NoWay"] = true)
    {XI0 XI1 XI2 XI3 XI4 XI5 XI6 : Addr}
    (aXI0 : PySem.W.nsIn K mainGlobals "NotSuch" = some (some (.ref XI0)))
    (aXI1 : PySem.W.nsIn K mainGlobals "Lost" = some (some (.ref XI1)))
    (aXI2 : PySem.W.nsIn K mainGlobals "NoTale" = some (some (.ref XI2)))
    (aXI3 : PySem.W.nsIn K mainGlobals "NoWay" = some (some (.ref XI3)))
    (aXI4 : PySem.W.nsIn K mainGlobals "NoWheel" = some (some (.ref XI4)))
    (aXI5 : PySem.W.nsIn K mainGlobals "NoBeat" = some (some (.ref XI5)))
    (aXI6 : PySem.W.nsIn K mainGlobals "Done" = some (some (.ref XI6)))
    (xall : xallB K ["NotSuch", "Lost", "NoTale", "NoWay", "NoWheel", "NoBeat", "Done"] = true)
    (a0 : PySem.W.nsIn K mainGlobals "rising" = some (some (.ref f0))) (l0 : K.lookup f0 = some ⟨oc0, od0, .func (PySem.W.fnOf "rising" "rising" (L2.defArgs s0) (L2.defBody s0) (L2.defScope s0) .none kV0 dc0 pm0 an0 cd0 ct0), sl0⟩) (d0 : PySem.W.codeIn K cd0 "rising" = true) (k0 : PySem.W.keepIn K (.ref f0) = true)
    (a1 : PySem.W.nsIn K mainGlobals "greatest" = some (some (.ref f1))) (l1 : K.lookup f1 = some ⟨oc1, od1, .func (PySem.W.fnOf "greatest" "greatest" (L2.defArgs s1) (L2.defBody s1) (L2.defScope s1) .none kV1 dc1 pm1 an1 cd1 ct1), sl1⟩) (d1 : PySem.W.codeIn K cd1 "greatest" = true) (k1 : PySem.W.keepIn K (.ref f1) = true)
    (a2 : PySem.W.nsIn K mainGlobals "spread" = some (some (.ref f2))) (l2 : K.lookup f2 = some ⟨oc2, od2, .func (PySem.W.fnOf "spread" "spread" (L2.defArgs s2) (L2.defBody s2) (L2.defScope s2) .none kV2 dc2 pm2 an2 cd2 ct2), sl2⟩) (d2 : PySem.W.codeIn K cd2 "spread" = true) (k2 : PySem.W.keepIn K (.ref f2) = true)
    (a3 : PySem.W.nsIn K mainGlobals "word_at" = some (some (.ref f3))) (l3 : K.lookup f3 = some ⟨oc3, od3, .func (PySem.W.fnOf "word_at" "word_at" (L2.defArgs s3) (L2.defBody s3) (L2.defScope s3) .none kV3 dc3 pm3 an3 cd3 ct3), sl3⟩) (d3 : PySem.W.codeIn K cd3 "word_at" = true) (k3 : PySem.W.keepIn K (.ref f3) = true)
    (a4 : PySem.W.nsIn K mainGlobals "next_pace" = some (some (.ref f4))) (l4 : K.lookup f4 = some ⟨oc4, od4, .func (PySem.W.fnOf "next_pace" "next_pace" (L2.defArgs s4) (L2.defBody s4) (L2.defScope s4) .none kV4 dc4 pm4 an4 cd4 ct4), sl4⟩) (d4 : PySem.W.codeIn K cd4 "next_pace" = true) (k4 : PySem.W.keepIn K (.ref f4) = true)
    (a5 : PySem.W.nsIn K mainGlobals "way" = some (some (.ref f5))) (l5 : K.lookup f5 = some ⟨oc5, od5, .func (PySem.W.fnOf "way" "way" (L2.defArgs s5) (L2.defBody s5) (L2.defScope s5) .none kV5 dc5 pm5 an5 cd5 ct5), sl5⟩) (d5 : PySem.W.codeIn K cd5 "way" = true) (k5 : PySem.W.keepIn K (.ref f5) = true)
    (a6 : PySem.W.nsIn K mainGlobals "_law_hand" = some (some (.ref f6))) (l6 : K.lookup f6 = some ⟨oc6, od6, .func (PySem.W.fnOf "_law_hand" "_law_hand" (L2.defArgs s6) (L2.defBody s6) (L2.defScope s6) .none kV6 dc6 pm6 an6 cd6 ct6), sl6⟩) (d6 : PySem.W.codeIn K cd6 "_law_hand" = true) (k6 : PySem.W.keepIn K (.ref f6) = true)
    (a7 : PySem.W.nsIn K mainGlobals "_law_take" = some (some (.ref f7))) (l7 : K.lookup f7 = some ⟨oc7, od7, .func (PySem.W.fnOf "_law_take" "_law_take" (L2.defArgs s7) (L2.defBody s7) (L2.defScope s7) .none kV7 dc7 pm7 an7 cd7 ct7), sl7⟩) (d7 : PySem.W.codeIn K cd7 "_law_take" = true) (k7 : PySem.W.keepIn K (.ref f7) = true)
    (a8 : PySem.W.nsIn K mainGlobals "_law_case" = some (some (.ref f8))) (l8 : K.lookup f8 = some ⟨oc8, od8, .func (PySem.W.fnOf "_law_case" "_law_case" (L2.defArgs s8) (L2.defBody s8) (L2.defScope s8) .none kV8 dc8 pm8 an8 cd8 ct8), sl8⟩) (d8 : PySem.W.codeIn K cd8 "_law_case" = true) (k8 : PySem.W.keepIn K (.ref f8) = true)
    (a9 : PySem.W.nsIn K mainGlobals "_law_rank" = some (some (.ref f9))) (l9 : K.lookup f9 = some ⟨oc9, od9, .func (PySem.W.fnOf "_law_rank" "_law_rank" (L2.defArgs s9) (L2.defBody s9) (L2.defScope s9) .none kV9 dc9 pm9 an9 cd9 ct9), sl9⟩) (d9 : PySem.W.codeIn K cd9 "_law_rank" = true) (k9 : PySem.W.keepIn K (.ref f9) = true)
    (a10 : PySem.W.nsIn K mainGlobals "_law_ways" = some (some (.ref f10))) (l10 : K.lookup f10 = some ⟨oc10, od10, .func (PySem.W.fnOf "_law_ways" "_law_ways" (L2.defArgs s10) (L2.defBody s10) (L2.defScope s10) .none kV10 dc10 pm10 an10 cd10 ct10), sl10⟩) (d10 : PySem.W.codeIn K cd10 "_law_ways" = true) (k10 : PySem.W.keepIn K (.ref f10) = true)
    (a11 : PySem.W.nsIn K mainGlobals "_law_lengths" = some (some (.ref f11))) (l11 : K.lookup f11 = some ⟨oc11, od11, .func (PySem.W.fnOf "_law_lengths" "_law_lengths" (L2.defArgs s11) (L2.defBody s11) (L2.defScope s11) .none kV11 dc11 pm11 an11 cd11 ct11), sl11⟩) (d11 : PySem.W.codeIn K cd11 "_law_lengths" = true) (k11 : PySem.W.keepIn K (.ref f11) = true)
    (a12 : PySem.W.nsIn K mainGlobals "_law_word" = some (some (.ref f12))) (l12 : K.lookup f12 = some ⟨oc12, od12, .func (PySem.W.fnOf "_law_word" "_law_word" (L2.defArgs s12) (L2.defBody s12) (L2.defScope s12) .none kV12 dc12 pm12 an12 cd12 ct12), sl12⟩) (d12 : PySem.W.codeIn K cd12 "_law_word" = true) (k12 : PySem.W.keepIn K (.ref f12) = true)
    (a13 : PySem.W.nsIn K mainGlobals "_law_few" = some (some (.ref f13))) (l13 : K.lookup f13 = some ⟨oc13, od13, .func (PySem.W.fnOf "_law_few" "_law_few" (L2.defArgs s13) (L2.defBody s13) (L2.defScope s13) .none kV13 dc13 pm13 an13 cd13 ct13), sl13⟩) (d13 : PySem.W.codeIn K cd13 "_law_few" = true) (k13 : PySem.W.keepIn K (.ref f13) = true)
    (a14 : PySem.W.nsIn K mainGlobals "_law_told" = some (some (.ref f14))) (l14 : K.lookup f14 = some ⟨oc14, od14, .func (PySem.W.fnOf "_law_told" "_law_told" (L2.defArgs s14) (L2.defBody s14) (L2.defScope s14) .none kV14 dc14 pm14 an14 cd14 ct14), sl14⟩) (d14 : PySem.W.codeIn K cd14 "_law_told" = true) (k14 : PySem.W.keepIn K (.ref f14) = true)
    (a15 : PySem.W.nsIn K mainGlobals "_law_near_right" = some (some (.ref f15))) (l15 : K.lookup f15 = some ⟨oc15, od15, .func (PySem.W.fnOf "_law_near_right" "_law_near_right" (L2.defArgs s15) (L2.defBody s15) (L2.defScope s15) .none kV15 dc15 pm15 an15 cd15 ct15), sl15⟩) (d15 : PySem.W.codeIn K cd15 "_law_near_right" = true) (k15 : PySem.W.keepIn K (.ref f15) = true)
    (a16 : PySem.W.nsIn K mainGlobals "_law_due" = some (some (.ref f16))) (l16 : K.lookup f16 = some ⟨oc16, od16, .func (PySem.W.fnOf "_law_due" "_law_due" (L2.defArgs s16) (L2.defBody s16) (L2.defScope s16) .none kV16 dc16 pm16 an16 cd16 ct16), sl16⟩) (d16 : PySem.W.codeIn K cd16 "_law_due" = true) (k16 : PySem.W.keepIn K (.ref f16) = true)
    (a17 : PySem.W.nsIn K mainGlobals "_law_right" = some (some (.ref f17))) (l17 : K.lookup f17 = some ⟨oc17, od17, .func (PySem.W.fnOf "_law_right" "_law_right" (L2.defArgs s17) (L2.defBody s17) (L2.defScope s17) .none kV17 dc17 pm17 an17 cd17 ct17), sl17⟩) (d17 : PySem.W.codeIn K cd17 "_law_right" = true) (k17 : PySem.W.keepIn K (.ref f17) = true)
    (a18 : PySem.W.nsIn K mainGlobals "law" = some (some (.ref f18))) (l18 : K.lookup f18 = some ⟨oc18, od18, .func (PySem.W.fnOf "law" "law" (L2.defArgs s18) (L2.defBody s18) (L2.defScope s18) .none kV18 dc18 pm18 an18 cd18 ct18), sl18⟩) (d18 : PySem.W.codeIn K cd18 "law" = true) (k18 : PySem.W.keepIn K (.ref f18) = true)
    (z_abs : PySem.W.nsIn K mainGlobals "abs" = some none) (z_all : PySem.W.nsIn K mainGlobals "all" = some none) (z_enumerate : PySem.W.nsIn K mainGlobals "enumerate" = some none) (z_int : PySem.W.nsIn K mainGlobals "int" = some none) (z_isinstance : PySem.W.nsIn K mainGlobals "isinstance" = some none) (z_len : PySem.W.nsIn K mainGlobals "len" = some none) (z_list : PySem.W.nsIn K mainGlobals "list" = some none) (z_max : PySem.W.nsIn K mainGlobals "max" = some none) (z_min : PySem.W.nsIn K mainGlobals "min" = some none) (z_range : PySem.W.nsIn K mainGlobals "range" = some none) (z_repr : PySem.W.nsIn K mainGlobals "repr" = some none) (z_sorted : PySem.W.nsIn K mainGlobals "sorted" = some none) (z_tuple : PySem.W.nsIn K mainGlobals "tuple" = some none)
    (tt : ∃ c P, PySem.W.tabIn K "next_pace" = some (c, P))
    : ∃ fd : FuncData, (∀ (s : Shared) (v : Value), BindsTo s fd ⟨[v], []⟩ [("_law_script", v)]) ∧ ∀ base : Heap, K.In base → base.Ns mainGlobals mg → LamB K base mg → FnG l.prog w K mg base 20 fa fd ["_law_script"] (spOf K spLaw) := by
  have e := hfa.symm.trans (PySem.W.mg_of X Gn a18)
  cases e
  have F0 := L2.fun_mk (st := s0) l0 d0 k0
  have F1 := L2.fun_mk (st := s1) l1 d1 k1
  have F2 := L2.fun_mk (st := s2) l2 d2 k2
  have F3 := L2.fun_mk (st := s3) l3 d3 k3
  have F4 := L2.fun_mk (st := s4) l4 d4 k4
  have F5 := L2.fun_mk (st := s5) l5 d5 k5
  have F6 := L2.fun_mk (st := s6) l6 d6 k6
  have F7 := L2.fun_mk (st := s7) l7 d7 k7
  have F8 := L2.fun_mk (st := s8) l8 d8 k8
  have F9 := L2.fun_mk (st := s9) l9 d9 k9
  have F10 := L2.fun_mk (st := s10) l10 d10 k10
  have F11 := L2.fun_mk (st := s11) l11 d11 k11
  have F12 := L2.fun_mk (st := s12) l12 d12 k12
  have F13 := L2.fun_mk (st := s13) l13 d13 k13
  have F14 := L2.fun_mk (st := s14) l14 d14 k14
  have F15 := L2.fun_mk (st := s15) l15 d15 k15
  have F16 := L2.fun_mk (st := s16) l16 d16 k16
  have F17 := L2.fun_mk (st := s17) l17 d17 k17
  have F18 := L2.fun_mk (st := s18) l18 d18 k18
  refine ⟨PySem.W.fnOf "law" "law" (L2.defArgs s18) (L2.defBody s18) (L2.defScope s18) .none kV18 dc18 pm18 an18 cd18 ct18, fun s v => .of_eq rfl, fun base _ _ LB => ?_⟩
  have t0 : Tab l.prog w K mg base 0 T0 G := Tab.none (fun j x h => by simp [gls] at h) (fun x hx => by
    simp only [bis, List.mem_cons, List.mem_nil_iff, or_false] at hx
    rcases hx with rfl | rfl | rfl | rfl | rfl | rfl | rfl | rfl | rfl | rfl | rfl | rfl | rfl
    · exact PySem.W.mg_none_of X Gn z_abs
    · exact PySem.W.mg_none_of X Gn z_all
    · exact PySem.W.mg_none_of X Gn z_enumerate
    · exact PySem.W.mg_none_of X Gn z_int
    · exact PySem.W.mg_none_of X Gn z_isinstance
    · exact PySem.W.mg_none_of X Gn z_len
    · exact PySem.W.mg_none_of X Gn z_list
    · exact PySem.W.mg_none_of X Gn z_max
    · exact PySem.W.mg_none_of X Gn z_min
    · exact PySem.W.mg_none_of X Gn z_range
    · exact PySem.W.mg_none_of X Gn z_repr
    · exact PySem.W.mg_none_of X Gn z_sorted
    · exact PySem.W.mg_none_of X Gn z_tuple) (fun c hc => absurd (show c ∈ ([] : List DL.CIn) from hc) List.not_mem_nil)
  have g0 := fn_sound F0 sc0 t0 ok0 len0 body0 (fun h => absurd h (by decide)) (fun _ _ _ z => z)
  have t1 : Tab l.prog w K mg base 1 T1 G := t0.add (i := i0) g0 (hm_fun rfl (PySem.W.mg_of X Gn a0)) k0 (fun _ => kb_pos fun us hl => match us, hl with | [_, _, _, _], _ => rfl) (fun p hp => by cases hp)
  have g1 := fn_sound F1 sc1 t1 ok1 len1 body1 (fun h => absurd h (by decide)) (fun _ _ _ z => z)
  have t2 : Tab l.prog w K mg base 2 T2 G := t1.add (i := i1) g1 (hm_fun rfl (PySem.W.mg_of X Gn a1)) k1 (fun _ => kb_pos fun us hl => match us, hl with | [_, _, _, _, _], _ => rfl) (fun p hp => by cases hp)
  have g2 := fn_sound F2 sc2 t2 ok2 len2 body2 (fun h => absurd h (by decide)) (fun _ _ _ z => z)
  have t3 : Tab l.prog w K mg base 3 T3 G := t2.add (i := i2) g2 (hm_fun rfl (PySem.W.mg_of X Gn a2)) k2 (fun _ => kb_pos fun us hl => match us, hl with | [_, _, _, _], _ => rfl) (fun p hp => by cases hp)
  have g3 := fn_sound F3 sc3 t3 ok3 len3 body3 (fun h => absurd h (by decide)) (fun _ _ _ z => z)
  have t4 : Tab l.prog w K mg base 4 T4 G := t3.add (i := i3) g3 (hm_fun rfl (PySem.W.mg_of X Gn a3)) k3 (fun _ => kb_pos fun us hl => match us, hl with | [_, _, _, _, _], _ => rfl) (fun p hp => by cases hp)
  have g4 := fn_sound F4 sc4 t4 ok4 len4 body4 (fun _ => ⟨rfl, a4, tt.elim fun c e => e.elim fun P e => ⟨c, P, e, LB c P e⟩⟩) (fun _ _ _ z => z)
  have t5 : Tab l.prog w K mg base 5 TP5 G := t4.add (i := i4) g4 (hm_fun rfl (PySem.W.mg_of X Gn a4)) k4 (fun _ => kb_pos fun us hl => match us, hl with | [_, _, _, _, _], _ => rfl) (fun p hp => by cases hp)
  have tE : Tab l.prog w K mg base 5 TX5 G := Tab.exc t5 ["NoWay"] (by decide) (fun c hc => by
    simp only [List.mem_cons, List.mem_nil_iff, or_false] at hc
    rcases hc with rfl
    · exact ⟨_, exc0_of (by decide) aX0 (PySem.W.mg_of X Gn aX0) lX0 rX0 bX0 fX0 (L2.fun_mk (st := sx0) mX0 dX0 kX0) scx0 rfl (PySem.W.mg_of X Gn aXB0) bXB0 iXB0 rfl rfl rfl (fun env => ⟨_, rfl⟩) (fun _ _ _ _ _ _ us hl => match us, hl with | [_], _ => rfl)⟩) xsub (hx := .inr ⟨fun x hx => by
    simp only [List.mem_cons, List.mem_nil_iff, or_false] at hx
    rcases hx with rfl | rfl | rfl | rfl | rfl | rfl | rfl
    · exact .inr (.inr ⟨_, aXI0, PySem.W.mg_of X Gn aXI0⟩)
    · exact .inr (.inr ⟨_, aXI1, PySem.W.mg_of X Gn aXI1⟩)
    · exact .inr (.inr ⟨_, aXI2, PySem.W.mg_of X Gn aXI2⟩)
    · exact .inr (.inr ⟨_, aXI3, PySem.W.mg_of X Gn aXI3⟩)
    · exact .inr (.inr ⟨_, aXI4, PySem.W.mg_of X Gn aXI4⟩)
    · exact .inr (.inr ⟨_, aXI5, PySem.W.mg_of X Gn aXI5⟩)
    · exact .inr (.inr ⟨_, aXI6, PySem.W.mg_of X Gn aXI6⟩), xall⟩)
  have gx5 := fnX_sound (G := G) F5 sc5 (T := TX5) tE okx5 lenx5 bodyx5 rfl
  have t5 : Tab l.prog w K mg base 6 T5 G := Tab.addX (T := TX5) (i := i5) tE gx5 (hm_fun rfl (PySem.W.mg_of X Gn a5)) k5 (fun _ => kb_pos fun us hl => match us, hl with | [_, _, _, _, _], _ => rfl)
  have g5 := fn_sound F5 sc5 t5 ok5 len5 body5 (fun h => absurd h (by decide)) (fun _ _ _ z => z)
  have t6 : Tab l.prog w K mg base 7 T6 G := t5.add (i := i5) g5 (hm_fun rfl (PySem.W.mg_of X Gn a5)) k5 (fun _ => kb_pos fun us hl => match us, hl with | [_, _, _, _, _], _ => rfl) (fun p hp => by
    simp only [i5, List.mem_cons, List.mem_nil_iff, or_false] at hp
    rcases hp with rfl
    · exact kb5_0)
  have g6 := fn_sound F6 sc6 t6 ok6 len6 body6 (fun h => absurd h (by decide)) (fun _ _ _ z => z)
  have t7 : Tab l.prog w K mg base 8 T7 G := t6.add (i := i6) g6 (hm_fun rfl (PySem.W.mg_of X Gn a6)) k6 (fun _ => kb_pos fun us hl => match us, hl with | [_, _], _ => rfl) (fun p hp => by cases hp)
  have g7 := fn_sound F7 sc7 t7 ok7 len7 body7 (fun h => absurd h (by decide)) (fun _ _ _ z => z)
  have t8 : Tab l.prog w K mg base 9 T8 G := t7.add (i := i7) g7 (hm_fun rfl (PySem.W.mg_of X Gn a7)) k7 (fun _ => kb_pos fun us hl => match us, hl with | [_, _], _ => rfl) (fun p hp => by cases hp)
  have g8 := fn_sound F8 sc8 t8 ok8 len8 body8 (fun h => absurd h (by decide)) (fun _ _ _ z => z)
  have t9 : Tab l.prog w K mg base 10 T9 G := t8.add (i := i8) g8 (hm_fun rfl (PySem.W.mg_of X Gn a8)) k8 (fun _ => kb_pos fun us hl => match us, hl with | [_, _], _ => rfl) (fun p hp => by cases hp)
  have g9 := fn_sound F9 sc9 t9 ok9 len9 body9 (fun h => absurd h (by decide)) (fun _ _ _ z => z)
  have t10 : Tab l.prog w K mg base 11 T10 G := t9.add (i := i9) g9 (hm_fun rfl (PySem.W.mg_of X Gn a9)) k9 (fun _ => kb_pos fun us hl => match us, hl with | [_], _ => rfl) (fun p hp => by cases hp)
  have g10 := fn_sound F10 sc10 t10 ok10 len10 body10 (fun h => absurd h (by decide)) (fun _ _ _ z => z)
  have t11 : Tab l.prog w K mg base 12 T11 G := t10.add (i := i10) g10 (hm_fun rfl (PySem.W.mg_of X Gn a10)) k10 (fun _ => kb_pos fun us hl => match us, hl with | [_, _, _], _ => rfl) (fun p hp => by cases hp)
  have g11 := fn_sound F11 sc11 t11 ok11 len11 body11 (fun h => absurd h (by decide)) (fun _ _ _ z => z)
  have t12 : Tab l.prog w K mg base 13 T12 G := t11.add (i := i11) g11 (hm_fun rfl (PySem.W.mg_of X Gn a11)) k11 (fun _ => kb_pos fun us hl => match us, hl with | [_, _, _, _], _ => rfl) (fun p hp => by cases hp)
  have g12 := fn_sound F12 sc12 t12 ok12 len12 body12 (fun h => absurd h (by decide)) (fun _ _ _ z => z)
  have t13 : Tab l.prog w K mg base 14 T13 G := t12.add (i := i12) g12 (hm_fun rfl (PySem.W.mg_of X Gn a12)) k12 (fun _ => kb_pos fun us hl => match us, hl with | [_, _, _, _, _], _ => rfl) (fun p hp => by cases hp)
  have g13 := fn_sound F13 sc13 t13 ok13 len13 body13 (fun h => absurd h (by decide)) (fun _ _ _ z => z)
  have t14 : Tab l.prog w K mg base 15 T14 G := t13.add (i := i13) g13 (hm_fun rfl (PySem.W.mg_of X Gn a13)) k13 (fun _ => kb_pos fun us hl => match us, hl with | [_, _, _, _, _], _ => rfl) (fun p hp => by cases hp)
  have g14 := fn_sound F14 sc14 t14 ok14 len14 body14 (fun h => absurd h (by decide)) (fun _ _ _ z => z)
  have t15 : Tab l.prog w K mg base 16 T15 G := t14.add (i := i14) g14 (hm_fun rfl (PySem.W.mg_of X Gn a14)) k14 (fun _ => kb_pos fun us hl => match us, hl with | [_, _, _, _, _], _ => rfl) (fun p hp => by cases hp)
  have g15 := fn_sound F15 sc15 t15 ok15 len15 body15 (fun h => absurd h (by decide)) (fun _ _ _ z => z)
  have t16 : Tab l.prog w K mg base 17 T16 G := t15.add (i := i15) g15 (hm_fun rfl (PySem.W.mg_of X Gn a15)) k15 (fun _ => kb_pos fun us hl => match us, hl with | [_], _ => rfl) (fun p hp => by cases hp)
  have g16 := fn_sound F16 sc16 t16 ok16 len16 body16 (fun h => absurd h (by decide)) (fun _ _ _ z => z)
  have t17 : Tab l.prog w K mg base 18 T17 G := t16.add (i := i16) g16 (hm_fun rfl (PySem.W.mg_of X Gn a16)) k16 (fun _ => kb_pos fun us hl => match us, hl with | [_, _, _, _, _], _ => rfl) (fun p hp => by cases hp)
  have g17 := fn_sound F17 sc17 t17 ok17 len17 body17 (fun h => absurd h (by decide)) (fun _ _ _ z => z)
  have t18 : Tab l.prog w K mg base 19 T18 G := t17.add (i := i17) g17 (hm_fun rfl (PySem.W.mg_of X Gn a17)) k17 (fun _ => kb_pos fun us hl => match us, hl with | [_], _ => rfl) (fun p hp => by cases hp)
  have g18 := fn_sound F18 sc18 t18 ok18 len18 body18 (fun h => absurd h (by decide)) (fun _ _ _ z => z)
  exact g18
end Law_k28
open PySem PySem.W PyProof.Rows
set_option maxHeartbeats 0 in
theorem PySem.Challenge.cw_drivenwheels_k28_the_told_way_holds : PySem.Challenge.rw_drivenwheels_k28_the_told_way.Holds := by
  w_on; o_law; k_head; (case hw => w_witness2)
  k_fill
  refine DL.walk_law (l := PySem.Challenge.rw_drivenwheels_k28_the_told_way) (k := 20) (x := "_law_script") rfl rfl ⟨rfl, by decide, by decide⟩ (fun w h Y => DL.tabKn_of Y (by kernel_rfl)) ?F
  case F =>
    intro w mg fa h KX Gn hmg
    refine' Law_k28.all_mk KX Gn hmg ?aXB0 ?bXB0 ?iXB0 ?aX0 ?lX0 ?rX0 ?fX0 ?mX0 ?dX0 ?kX0 ?bX0 ?xsub ?aXI0 ?aXI1 ?aXI2 ?aXI3 ?aXI4 ?aXI5 ?aXI6 ?xall ?a0 ?l0 ?d0 ?k0 ?a1 ?l1 ?d1 ?k1 ?a2 ?l2 ?d2 ?k2 ?a3 ?l3 ?d3 ?k3 ?a4 ?l4 ?d4 ?k4 ?a5 ?l5 ?d5 ?k5 ?a6 ?l6 ?d6 ?k6 ?a7 ?l7 ?d7 ?k7 ?a8 ?l8 ?d8 ?k8 ?a9 ?l9 ?d9 ?k9 ?a10 ?l10 ?d10 ?k10 ?a11 ?l11 ?d11 ?k11 ?a12 ?l12 ?d12 ?k12 ?a13 ?l13 ?d13 ?k13 ?a14 ?l14 ?d14 ?k14 ?a15 ?l15 ?d15 ?k15 ?a16 ?l16 ?d16 ?k16 ?a17 ?l17 ?d17 ?k17 ?a18 ?l18 ?d18 ?k18 ?z_abs ?z_all ?z_enumerate ?z_int ?z_isinstance ?z_len ?z_list ?z_max ?z_min ?z_range ?z_repr ?z_sorted ?z_tuple ?tt
    (case aXB0 => k_is); (case bXB0 => first | kernel_rfl | rfl | (decide +kernel)); (case iXB0 => k_is); (case aX0 => k_is); (case lX0 => k_is); (case rX0 => first | kernel_rfl | rfl | (decide +kernel)); (case fX0 => k_is); (case mX0 => k_is); (case dX0 => k_is); (case kX0 => k_is); (case bX0 => first | kernel_rfl | rfl | (decide +kernel)); (case xsub => first | kernel_rfl | rfl | (decide +kernel)); (case aXI0 => k_is); (case aXI1 => k_is); (case aXI2 => k_is); (case aXI3 => k_is); (case aXI4 => k_is); (case aXI5 => k_is); (case aXI6 => k_is); (case xall => first | kernel_rfl | rfl | (decide +kernel)); (case a0 => k_is); (case l0 => k_is); (case d0 => k_is); (case k0 => k_is); (case a1 => k_is); (case l1 => k_is); (case d1 => k_is); (case k1 => k_is); (case a2 => k_is); (case l2 => k_is); (case d2 => k_is); (case k2 => k_is); (case a3 => k_is); (case l3 => k_is); (case d3 => k_is); (case k3 => k_is); (case a4 => k_is); (case l4 => k_is); (case d4 => k_is); (case k4 => k_is); (case a5 => k_is); (case l5 => k_is); (case d5 => k_is); (case k5 => k_is); (case a6 => k_is); (case l6 => k_is); (case d6 => k_is); (case k6 => k_is); (case a7 => k_is); (case l7 => k_is); (case d7 => k_is); (case k7 => k_is); (case a8 => k_is); (case l8 => k_is); (case d8 => k_is); (case k8 => k_is); (case a9 => k_is); (case l9 => k_is); (case d9 => k_is); (case k9 => k_is); (case a10 => k_is); (case l10 => k_is); (case d10 => k_is); (case k10 => k_is); (case a11 => k_is); (case l11 => k_is); (case d11 => k_is); (case k11 => k_is); (case a12 => k_is); (case l12 => k_is); (case d12 => k_is); (case k12 => k_is); (case a13 => k_is); (case l13 => k_is); (case d13 => k_is); (case k13 => k_is); (case a14 => k_is); (case l14 => k_is); (case d14 => k_is); (case k14 => k_is); (case a15 => k_is); (case l15 => k_is); (case d15 => k_is); (case k15 => k_is); (case a16 => k_is); (case l16 => k_is); (case d16 => k_is); (case k16 => k_is); (case a17 => k_is); (case l17 => k_is); (case d17 => k_is); (case k17 => k_is); (case a18 => k_is); (case l18 => k_is); (case d18 => k_is); (case k18 => k_is); (case z_abs => k_is); (case z_all => k_is); (case z_enumerate => k_is); (case z_int => k_is); (case z_isinstance => k_is); (case z_len => k_is); (case z_list => k_is); (case z_max => k_is); (case z_min => k_is); (case z_range => k_is); (case z_repr => k_is); (case z_sorted => k_is); (case z_tuple => k_is); (case tt => exact DL.tab_ex (by kernel_rfl))
